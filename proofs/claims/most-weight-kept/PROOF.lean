import PyProof.Rows.All
import Wide.All
import OpenK.AllK
import Wide.FinOn
import HandS.ForMost
import Lean
import HandS.Defaults
import HandS.Head0
import HandS.Head1
import HandS.Head2
import HandS.HeadEnd
import HandS.HeadHook1
import HandS.HeadHook2
import HandS.HeadHook3
import HandS.HeadHook4
import HandS.HeadWalk
import HandS.Conv
import HandS.NoneIn
import HandS.Style
import HandS.Star
import HandS.DictComp
import HandS.IsInst
import HandS.SortInts
import HandS.SortKw
import HandS.Lambda
import KE.GoesMore
import HandS.Small
import KE.SortKeyHeap
import KE.KSortKey
import PySem.Challenge.RW_livenames_k31_whole_most_weight_kept
set_option Elab.async false
set_option linter.all false
set_option maxRecDepth 100000
namespace Lv
open PySem PySem.Spec PyProof.Rows L2
def topS (i : Nat) : Stmt := PySem.Challenge.pw_livenames_k31_whole_most_weight_kept.main.body.getD i (.Pass ⟨0, 0, 0, 0⟩)
abbrev s_is_whole : Stmt := topS 12
abbrev s_is_number : Stmt := topS 13
abbrev s_is_name : Stmt := topS 14
abbrev s_is_line : Stmt := topS 15
abbrev s_each_once : Stmt := topS 16
abbrev s_ordered : Stmt := topS 17
abbrev s_name_at : Stmt := topS 18
abbrev s_first_names : Stmt := topS 19
abbrev s_is_tree : Stmt := topS 24
abbrev s_are_trees : Stmt := topS 25
abbrev s_parts_of : Stmt := topS 26
abbrev s_deep_of : Stmt := topS 27
abbrev s_Flat_init : Stmt := inClass (topS 28) 0
abbrev s_Flat_add : Stmt := inClass (topS 28) 1
abbrev s_Term_init : Stmt := inClass (topS 29) 0
abbrev s_Term_meant : Stmt := inClass (topS 29) 1
abbrev s_look_at_term : Stmt := topS 30
abbrev s_are_such_names : Stmt := topS 32
abbrev s_look_at_names : Stmt := topS 33
abbrev s_name_for : Stmt := topS 34
abbrev s_inner : Stmt := topS 35
abbrev s_catches_of : Stmt := topS 36
abbrev s_is_right : Stmt := topS 37
abbrev s_look_at_right : Stmt := topS 38
abbrev s_all_live : Stmt := topS 40
abbrev s_in_line : Stmt := topS 41
abbrev s_free_of : Stmt := topS 43
abbrev s_are_such_wishes : Stmt := topS 46
abbrev s_are_wishes : Stmt := topS 47
abbrev s_are_such_weights : Stmt := topS 48
abbrev s_are_weights : Stmt := topS 49
abbrev s_look_at_wishes : Stmt := topS 50
abbrev s_look_at_both : Stmt := topS 51
abbrev s_wishing : Stmt := topS 52
abbrev s_mates_of : Stmt := topS 53
abbrev s_prices_by : Stmt := topS 54
abbrev s_kept_of : Stmt := topS 55
abbrev s_told_by : Stmt := topS 56
abbrev s_kept_binders : Stmt := topS 57
abbrev s_kept_by : Stmt := topS 58
abbrev s_kept_weight : Stmt := topS 59
abbrev s_told_kept : Stmt := topS 60
abbrev s_most_kept : Stmt := topS 61
abbrev s_law_pool : Stmt := topS 63
abbrev s_law_take : Stmt := topS 64
abbrev s_law_one : Stmt := topS 65
abbrev s_law_unlike : Stmt := topS 66
abbrev s_law_words : Stmt := topS 67
abbrev s_law_leaf : Stmt := topS 68
abbrev s_law_grown : Stmt := topS 69
abbrev s_law_bound : Stmt := topS 70
abbrev s_law_nested : Stmt := topS 71
abbrev s_law_tree : Stmt := topS 72
abbrev s_law_below : Stmt := topS 73
abbrev s_law_spots : Stmt := topS 74
abbrev s_law_page : Stmt := topS 75
abbrev s_law_free : Stmt := topS 76
abbrev s_law_in_order : Stmt := topS 77
abbrev s_law_inside : Stmt := topS 78
abbrev s_law_live : Stmt := topS 79
abbrev s_law_all_live : Stmt := topS 80
abbrev s_law_named : Stmt := topS 81
abbrev s_law_is_right : Stmt := topS 82
abbrev s_law_wordlist : Stmt := topS 83
abbrev s_law_right_naming : Stmt := topS 84
abbrev s_law_made : Stmt := topS 85
abbrev s_law_small : Stmt := topS 86
abbrev s_law_wishes : Stmt := topS 87
abbrev s_law_weights : Stmt := topS 88
abbrev s_law_lives : Stmt := topS 89
abbrev s_law_wishers : Stmt := topS 90
abbrev s_law_mates : Stmt := topS 91
abbrev s_law_told_prices : Stmt := topS 92
abbrev s_law_kept_ones : Stmt := topS 93
abbrev s_law_told_kept : Stmt := topS 94
abbrev s_law_best_of : Stmt := topS 95
abbrev s_law_best : Stmt := topS 96
abbrev s_law_kept_weight : Stmt := topS 97
abbrev s_law_pair_right : Stmt := topS 98
abbrev s_law : Stmt := topS 99
end Lv

set_option Elab.async false
set_option linter.all false
set_option maxRecDepth 100000
set_option maxHeartbeats 0
namespace Lv.Hd
open PySem PySem.Spec PyProof.Rows L2
def ds_is_whole : He.DefD := ⟨("is_whole", none), "is_whole", "is_whole", defArgs s_is_whole, defBody s_is_whole, defScope s_is_whole, [], []⟩
def ds_is_number : He.DefD := ⟨("is_number", none), "is_number", "is_number", defArgs s_is_number, defBody s_is_number, defScope s_is_number, [], []⟩
def ds_is_name : He.DefD := ⟨("is_name", none), "is_name", "is_name", defArgs s_is_name, defBody s_is_name, defScope s_is_name, [], []⟩
def ds_is_line : He.DefD := ⟨("is_line", none), "is_line", "is_line", defArgs s_is_line, defBody s_is_line, defScope s_is_line, [], []⟩
def ds_each_once : He.DefD := ⟨("each_once", none), "each_once", "each_once", defArgs s_each_once, defBody s_each_once, defScope s_each_once, [], []⟩
def ds_ordered : He.DefD := ⟨("ordered", none), "ordered", "ordered", defArgs s_ordered, defBody s_ordered, defScope s_ordered, [], []⟩
def ds_name_at : He.DefD := ⟨("name_at", none), "name_at", "name_at", defArgs s_name_at, defBody s_name_at, defScope s_name_at, [], []⟩
def ds_first_names : He.DefD := ⟨("first_names", none), "first_names", "first_names", defArgs s_first_names, defBody s_first_names, defScope s_first_names, [], []⟩
def ds_is_tree : He.DefD := ⟨("is_tree", none), "is_tree", "is_tree", defArgs s_is_tree, defBody s_is_tree, defScope s_is_tree, [], []⟩
def ds_are_trees : He.DefD := ⟨("are_trees", none), "are_trees", "are_trees", defArgs s_are_trees, defBody s_are_trees, defScope s_are_trees, [], []⟩
def ds_parts_of : He.DefD := ⟨("parts_of", none), "parts_of", "parts_of", defArgs s_parts_of, defBody s_parts_of, defScope s_parts_of, [], []⟩
def ds_deep_of : He.DefD := ⟨("deep_of", none), "deep_of", "deep_of", defArgs s_deep_of, defBody s_deep_of, defScope s_deep_of, [], []⟩
def ds_Flat_init : He.DefD := ⟨("Flat", some "__init__"), "__init__", "Flat.__init__", defArgs s_Flat_init, defBody s_Flat_init, defScope s_Flat_init, [], []⟩
def ds_Flat_add : He.DefD := ⟨("Flat", some "add"), "add", "Flat.add", defArgs s_Flat_add, defBody s_Flat_add, defScope s_Flat_add, [], []⟩
def ds_Term_init : He.DefD := ⟨("Term", some "__init__"), "__init__", "Term.__init__", defArgs s_Term_init, defBody s_Term_init, defScope s_Term_init, [], []⟩
def ds_Term_meant : He.DefD := ⟨("Term", some "meant"), "meant", "Term.meant", defArgs s_Term_meant, defBody s_Term_meant, defScope s_Term_meant, [], []⟩
def ds_look_at_term : He.DefD := ⟨("look_at_term", none), "look_at_term", "look_at_term", defArgs s_look_at_term, defBody s_look_at_term, defScope s_look_at_term, [], []⟩
def ds_are_such_names : He.DefD := ⟨("are_such_names", none), "are_such_names", "are_such_names", defArgs s_are_such_names, defBody s_are_such_names, defScope s_are_such_names, [], []⟩
def ds_look_at_names : He.DefD := ⟨("look_at_names", none), "look_at_names", "look_at_names", defArgs s_look_at_names, defBody s_look_at_names, defScope s_look_at_names, [], []⟩
def ds_name_for : He.DefD := ⟨("name_for", none), "name_for", "name_for", defArgs s_name_for, defBody s_name_for, defScope s_name_for, [], []⟩
def ds_inner : He.DefD := ⟨("inner", none), "inner", "inner", defArgs s_inner, defBody s_inner, defScope s_inner, [], []⟩
def ds_catches_of : He.DefD := ⟨("catches_of", none), "catches_of", "catches_of", defArgs s_catches_of, defBody s_catches_of, defScope s_catches_of, [], []⟩
def ds_is_right : He.DefD := ⟨("is_right", none), "is_right", "is_right", defArgs s_is_right, defBody s_is_right, defScope s_is_right, [], []⟩
def ds_look_at_right : He.DefD := ⟨("look_at_right", none), "look_at_right", "look_at_right", defArgs s_look_at_right, defBody s_look_at_right, defScope s_look_at_right, [], []⟩
def ds_all_live : He.DefD := ⟨("all_live", none), "all_live", "all_live", defArgs s_all_live, defBody s_all_live, defScope s_all_live, [], []⟩
def ds_in_line : He.DefD := ⟨("in_line", none), "in_line", "in_line", defArgs s_in_line, defBody s_in_line, defScope s_in_line, [], []⟩
def ds_free_of : He.DefD := ⟨("free_of", none), "free_of", "free_of", defArgs s_free_of, defBody s_free_of, defScope s_free_of, [], []⟩
def ds_are_such_wishes : He.DefD := ⟨("are_such_wishes", none), "are_such_wishes", "are_such_wishes", defArgs s_are_such_wishes, defBody s_are_such_wishes, defScope s_are_such_wishes, [], []⟩
def ds_are_wishes : He.DefD := ⟨("are_wishes", none), "are_wishes", "are_wishes", defArgs s_are_wishes, defBody s_are_wishes, defScope s_are_wishes, [], []⟩
def ds_are_such_weights : He.DefD := ⟨("are_such_weights", none), "are_such_weights", "are_such_weights", defArgs s_are_such_weights, defBody s_are_such_weights, defScope s_are_such_weights, [], []⟩
def ds_are_weights : He.DefD := ⟨("are_weights", none), "are_weights", "are_weights", defArgs s_are_weights, defBody s_are_weights, defScope s_are_weights, [], []⟩
def ds_look_at_wishes : He.DefD := ⟨("look_at_wishes", none), "look_at_wishes", "look_at_wishes", defArgs s_look_at_wishes, defBody s_look_at_wishes, defScope s_look_at_wishes, [], []⟩
def ds_look_at_both : He.DefD := ⟨("look_at_both", none), "look_at_both", "look_at_both", defArgs s_look_at_both, defBody s_look_at_both, defScope s_look_at_both, [], []⟩
def ds_wishing : He.DefD := ⟨("wishing", none), "wishing", "wishing", defArgs s_wishing, defBody s_wishing, defScope s_wishing, [], []⟩
def ds_mates_of : He.DefD := ⟨("mates_of", none), "mates_of", "mates_of", defArgs s_mates_of, defBody s_mates_of, defScope s_mates_of, [], []⟩
def ds_prices_by : He.DefD := ⟨("prices_by", none), "prices_by", "prices_by", defArgs s_prices_by, defBody s_prices_by, defScope s_prices_by, [], []⟩
def ds_kept_of : He.DefD := ⟨("kept_of", none), "kept_of", "kept_of", defArgs s_kept_of, defBody s_kept_of, defScope s_kept_of, [], []⟩
def ds_told_by : He.DefD := ⟨("told_by", none), "told_by", "told_by", defArgs s_told_by, defBody s_told_by, defScope s_told_by, [], []⟩
def ds_kept_binders : He.DefD := ⟨("kept_binders", none), "kept_binders", "kept_binders", defArgs s_kept_binders, defBody s_kept_binders, defScope s_kept_binders, [], []⟩
def ds_kept_by : He.DefD := ⟨("kept_by", none), "kept_by", "kept_by", defArgs s_kept_by, defBody s_kept_by, defScope s_kept_by, [], []⟩
def ds_kept_weight : He.DefD := ⟨("kept_weight", none), "kept_weight", "kept_weight", defArgs s_kept_weight, defBody s_kept_weight, defScope s_kept_weight, [], []⟩
def ds_told_kept : He.DefD := ⟨("told_kept", none), "told_kept", "told_kept", defArgs s_told_kept, defBody s_told_kept, defScope s_told_kept, [], []⟩
def ds_most_kept : He.DefD := ⟨("most_kept", none), "most_kept", "most_kept", defArgs s_most_kept, defBody s_most_kept, defScope s_most_kept, [], []⟩
def ds_law_pool : He.DefD := ⟨("_law_pool", none), "_law_pool", "_law_pool", defArgs s_law_pool, defBody s_law_pool, defScope s_law_pool, [], []⟩
def ds_law_take : He.DefD := ⟨("_law_take", none), "_law_take", "_law_take", defArgs s_law_take, defBody s_law_take, defScope s_law_take, [], []⟩
def ds_law_one : He.DefD := ⟨("_law_one", none), "_law_one", "_law_one", defArgs s_law_one, defBody s_law_one, defScope s_law_one, [], []⟩
def ds_law_unlike : He.DefD := ⟨("_law_unlike", none), "_law_unlike", "_law_unlike", defArgs s_law_unlike, defBody s_law_unlike, defScope s_law_unlike, [], []⟩
def ds_law_words : He.DefD := ⟨("_law_words", none), "_law_words", "_law_words", defArgs s_law_words, defBody s_law_words, defScope s_law_words, [], []⟩
def ds_law_leaf : He.DefD := ⟨("_law_leaf", none), "_law_leaf", "_law_leaf", defArgs s_law_leaf, defBody s_law_leaf, defScope s_law_leaf, [], []⟩
def ds_law_grown : He.DefD := ⟨("_law_grown", none), "_law_grown", "_law_grown", defArgs s_law_grown, defBody s_law_grown, defScope s_law_grown, [], []⟩
def ds_law_bound : He.DefD := ⟨("_law_bound", none), "_law_bound", "_law_bound", defArgs s_law_bound, defBody s_law_bound, defScope s_law_bound, [], []⟩
def ds_law_nested : He.DefD := ⟨("_law_nested", none), "_law_nested", "_law_nested", defArgs s_law_nested, defBody s_law_nested, defScope s_law_nested, [], []⟩
def ds_law_tree : He.DefD := ⟨("_law_tree", none), "_law_tree", "_law_tree", defArgs s_law_tree, defBody s_law_tree, defScope s_law_tree, [], []⟩
def ds_law_below : He.DefD := ⟨("_law_below", none), "_law_below", "_law_below", defArgs s_law_below, defBody s_law_below, defScope s_law_below, [], []⟩
def ds_law_spots : He.DefD := ⟨("_law_spots", none), "_law_spots", "_law_spots", defArgs s_law_spots, defBody s_law_spots, defScope s_law_spots, [], []⟩
def ds_law_page : He.DefD := ⟨("_law_page", none), "_law_page", "_law_page", defArgs s_law_page, defBody s_law_page, defScope s_law_page, [], []⟩
def ds_law_free : He.DefD := ⟨("_law_free", none), "_law_free", "_law_free", defArgs s_law_free, defBody s_law_free, defScope s_law_free, [], []⟩
def ds_law_in_order : He.DefD := ⟨("_law_in_order", none), "_law_in_order", "_law_in_order", defArgs s_law_in_order, defBody s_law_in_order, defScope s_law_in_order, [], []⟩
def ds_law_inside : He.DefD := ⟨("_law_inside", none), "_law_inside", "_law_inside", defArgs s_law_inside, defBody s_law_inside, defScope s_law_inside, [], []⟩
def ds_law_live : He.DefD := ⟨("_law_live", none), "_law_live", "_law_live", defArgs s_law_live, defBody s_law_live, defScope s_law_live, [], []⟩
def ds_law_all_live : He.DefD := ⟨("_law_all_live", none), "_law_all_live", "_law_all_live", defArgs s_law_all_live, defBody s_law_all_live, defScope s_law_all_live, [], []⟩
def ds_law_named : He.DefD := ⟨("_law_named", none), "_law_named", "_law_named", defArgs s_law_named, defBody s_law_named, defScope s_law_named, [], []⟩
def ds_law_is_right : He.DefD := ⟨("_law_is_right", none), "_law_is_right", "_law_is_right", defArgs s_law_is_right, defBody s_law_is_right, defScope s_law_is_right, [], []⟩
def ds_law_wordlist : He.DefD := ⟨("_law_wordlist", none), "_law_wordlist", "_law_wordlist", defArgs s_law_wordlist, defBody s_law_wordlist, defScope s_law_wordlist, [], []⟩
def ds_law_right_naming : He.DefD := ⟨("_law_right_naming", none), "_law_right_naming", "_law_right_naming", defArgs s_law_right_naming, defBody s_law_right_naming, defScope s_law_right_naming, [], []⟩
def ds_law_made : He.DefD := ⟨("_law_made", none), "_law_made", "_law_made", defArgs s_law_made, defBody s_law_made, defScope s_law_made, [], []⟩
def ds_law_small : He.DefD := ⟨("_law_small", none), "_law_small", "_law_small", defArgs s_law_small, defBody s_law_small, defScope s_law_small, [], []⟩
def ds_law_wishes : He.DefD := ⟨("_law_wishes", none), "_law_wishes", "_law_wishes", defArgs s_law_wishes, defBody s_law_wishes, defScope s_law_wishes, [], []⟩
def ds_law_weights : He.DefD := ⟨("_law_weights", none), "_law_weights", "_law_weights", defArgs s_law_weights, defBody s_law_weights, defScope s_law_weights, [], []⟩
def ds_law_lives : He.DefD := ⟨("_law_lives", none), "_law_lives", "_law_lives", defArgs s_law_lives, defBody s_law_lives, defScope s_law_lives, [], []⟩
def ds_law_wishers : He.DefD := ⟨("_law_wishers", none), "_law_wishers", "_law_wishers", defArgs s_law_wishers, defBody s_law_wishers, defScope s_law_wishers, [], []⟩
def ds_law_mates : He.DefD := ⟨("_law_mates", none), "_law_mates", "_law_mates", defArgs s_law_mates, defBody s_law_mates, defScope s_law_mates, [], []⟩
def ds_law_told_prices : He.DefD := ⟨("_law_told_prices", none), "_law_told_prices", "_law_told_prices", defArgs s_law_told_prices, defBody s_law_told_prices, defScope s_law_told_prices, [], []⟩
def ds_law_kept_ones : He.DefD := ⟨("_law_kept_ones", none), "_law_kept_ones", "_law_kept_ones", defArgs s_law_kept_ones, defBody s_law_kept_ones, defScope s_law_kept_ones, [], []⟩
def ds_law_told_kept : He.DefD := ⟨("_law_told_kept", none), "_law_told_kept", "_law_told_kept", defArgs s_law_told_kept, defBody s_law_told_kept, defScope s_law_told_kept, [], []⟩
def ds_law_best_of : He.DefD := ⟨("_law_best_of", none), "_law_best_of", "_law_best_of", defArgs s_law_best_of, defBody s_law_best_of, defScope s_law_best_of, [], []⟩
def ds_law_best : He.DefD := ⟨("_law_best", none), "_law_best", "_law_best", defArgs s_law_best, defBody s_law_best, defScope s_law_best, [], []⟩
def ds_law_kept_weight : He.DefD := ⟨("_law_kept_weight", none), "_law_kept_weight", "_law_kept_weight", defArgs s_law_kept_weight, defBody s_law_kept_weight, defScope s_law_kept_weight, [], []⟩
def ds_law_pair_right : He.DefD := ⟨("_law_pair_right", none), "_law_pair_right", "_law_pair_right", defArgs s_law_pair_right, defBody s_law_pair_right, defScope s_law_pair_right, [], []⟩
def ds_law : He.DefD := ⟨("law", none), "law", "law", defArgs s_law, defBody s_law, defScope s_law, [], []⟩
def fn : List He.DefD := [ds_is_whole, ds_is_number, ds_is_name, ds_is_line, ds_each_once, ds_ordered, ds_name_at, ds_first_names, ds_is_tree, ds_are_trees, ds_parts_of, ds_deep_of, ds_Flat_init, ds_Flat_add, ds_Term_init, ds_Term_meant, ds_look_at_term, ds_are_such_names, ds_look_at_names, ds_name_for, ds_inner, ds_catches_of, ds_is_right, ds_look_at_right, ds_all_live, ds_in_line, ds_free_of, ds_are_such_wishes, ds_are_wishes, ds_are_such_weights, ds_are_weights, ds_look_at_wishes, ds_look_at_both, ds_wishing, ds_mates_of, ds_prices_by, ds_kept_of, ds_told_by, ds_kept_binders, ds_kept_by, ds_kept_weight, ds_told_kept, ds_most_kept, ds_law_pool, ds_law_take, ds_law_one, ds_law_unlike, ds_law_words, ds_law_leaf, ds_law_grown, ds_law_bound, ds_law_nested, ds_law_tree, ds_law_below, ds_law_spots, ds_law_page, ds_law_free, ds_law_in_order, ds_law_inside, ds_law_live, ds_law_all_live, ds_law_named, ds_law_is_right, ds_law_wordlist, ds_law_right_naming, ds_law_made, ds_law_small, ds_law_wishes, ds_law_weights, ds_law_lives, ds_law_wishers, ds_law_mates, ds_law_told_prices, ds_law_kept_ones, ds_law_told_kept, ds_law_best_of, ds_law_best, ds_law_kept_weight, ds_law_pair_right, ds_law]
def fa : List He.Fa := [.glo "is_whole", .glo "is_number", .glo "is_name", .glo "is_line", .glo "each_once", .glo "ordered", .glo "name_at", .glo "first_names", .glo "is_tree", .glo "are_trees", .glo "parts_of", .glo "deep_of", .glo "look_at_term", .glo "are_such_names", .glo "look_at_names", .glo "name_for", .glo "inner", .glo "catches_of", .glo "is_right", .glo "look_at_right", .glo "all_live", .glo "in_line", .glo "free_of", .glo "are_such_wishes", .glo "are_wishes", .glo "are_such_weights", .glo "are_weights", .glo "look_at_wishes", .glo "look_at_both", .glo "wishing", .glo "mates_of", .glo "prices_by", .glo "kept_of", .glo "told_by", .glo "kept_binders", .glo "kept_by", .glo "kept_weight", .glo "told_kept", .glo "most_kept", .glo "_law_pool", .glo "_law_take", .glo "_law_one", .glo "_law_unlike", .glo "_law_words", .glo "_law_leaf", .glo "_law_grown", .glo "_law_bound", .glo "_law_nested", .glo "_law_tree", .glo "_law_below", .glo "_law_spots", .glo "_law_page", .glo "_law_free", .glo "_law_in_order", .glo "_law_inside", .glo "_law_live", .glo "_law_all_live", .glo "_law_named", .glo "_law_is_right", .glo "_law_wordlist", .glo "_law_right_naming", .glo "_law_made", .glo "_law_small", .glo "_law_wishes", .glo "_law_weights", .glo "_law_lives", .glo "_law_wishers", .glo "_law_mates", .glo "_law_told_prices", .glo "_law_kept_ones", .glo "_law_told_kept", .glo "_law_best_of", .glo "_law_best", .glo "_law_kept_weight", .glo "_law_pair_right", .glo "law", .glo "Flat", .glo "Term", .free "len", .free "isinstance", .free "int", .free "bool", .free "str", .free "list", .free "tuple", .free "all", .free "sorted", .free "max", .free "min", .free "sum", .free "range", .free "enumerate", .str "LETTERS" "abcdefghijklmnopqrstuvwxyz", .int "MOST_LETTERS" 8, .int "MOST_NODES" 400, .int "MOST_BINDERS" 60, .int "MOST_DEEP" 100, .int "MOST_WEIGHT" 1000, .cls "Flat", .mkr "Flat", .noat "Flat" "nodes", .noat "Flat" "around", .noat "Flat" "binder_nodes", .noat "Flat" "use_nodes", .cls "Term", .mkr "Term", .noat "Term" "own_tree", .noat "Term" "own_nodes", .noat "Term" "own_around", .noat "Term" "binder_nodes", .noat "Term" "use_nodes", .noat "Term" "own_names", .noat "Term" "use_around", .noat "Term" "own_meaning", .meth "Flat" "add", .meth "Term" "meant"]
abbrev lawAt : Nat := 99
def loose0 : List PySem.Str := ["_wall", "BinderError", "NoTerm", "NoNode", "NoNames", "NoWishes", "NoWeights", "TooMany", "LETTERS", "MOST_LETTERS", "is_whole", "is_number", "is_name", "is_line", "each_once", "ordered", "name_at", "first_names", "MOST_NODES", "MOST_BINDERS"]
def loose1 : List PySem.Str := ["MOST_DEEP", "is_tree", "are_trees", "parts_of", "deep_of", "Flat", "Term", "look_at_term", "are_such_names", "look_at_names", "name_for", "inner", "catches_of", "is_right", "look_at_right", "all_live", "in_line", "free_of", "MOST_WEIGHT", "are_such_wishes"]
def loose2 : List PySem.Str := ["are_wishes", "are_such_weights", "are_weights", "look_at_wishes", "look_at_both", "wishing", "mates_of", "prices_by", "kept_of", "told_by", "kept_binders", "kept_by", "kept_weight", "told_kept", "most_kept", "_law_pool", "_law_take", "_law_one", "_law_unlike", "_law_words"]
def loose3 : List PySem.Str := ["_law_leaf", "_law_grown", "_law_bound", "_law_nested", "_law_tree", "_law_below", "_law_spots", "_law_page", "_law_free", "_law_in_order", "_law_inside", "_law_live", "_law_all_live", "_law_named", "_law_is_right", "_law_wordlist", "_law_right_naming", "_law_made", "_law_small", "_law_wishes"]
def loose4 : List PySem.Str := ["_law_weights", "_law_lives", "_law_wishers", "_law_mates", "_law_told_prices", "_law_kept_ones", "_law_told_kept", "_law_best_of", "_law_best", "_law_kept_weight", "_law_pair_right"]
def loose : List PySem.Str := loose0 ++ loose1 ++ loose2 ++ loose3 ++ loose4
def tf : List He.Defn := [("ordered", none), ("_law_in_order", none)]
def exB (K : PySem.W.Frag) : Bool :=
  decide (PySem.W.findIn K (.ref (He.ga K "Term")) "__class__" = some (some (.builtin "object.__class__"))) &&
  (decide (PySem.W.specialIn K (.builtin "object.__class__") "__get__" = some (some (.builtin "getset_descriptor.__get__"))) &&
  (decide (PySem.W.takesIn K (.builtin "object.__class__") = some true) &&
  (decide (PySem.W.mroIn K (He.ga K "Term") (.type "object") = some true) &&
  (decide (PySem.W.kitOne K (.ref (He.ga K "Term")) (.ref (He.ga K "Term")) = some true) &&
  decide ((He.cT K ("ordered", none)).2 ≠ (He.cT K ("_law_in_order", none)).2)))))
/-! the addresses that the facts speak of: the top's defs with their code, its classes with their namespace and methods -/
def valsAt (g : Addr → Option Obj) (a : Addr) : List Addr := match g a with
  | some ⟨_, _, .dict es _, _⟩ => es.toList.flatMap fun e => He.refV e.val
  | _ => []
def withCode (g : Addr → Option Obj) (a : Addr) : List Addr := match g a with
  | some ⟨_, _, .func fd, _⟩ => a :: He.refV fd.code
  | _ => []
def topOne (g : Addr → Option Obj) (a : Addr) : List Addr := match g a with
  | some ⟨_, _, .func fd, _⟩ => a :: He.refV fd.code
  | some ⟨_, _, .cls cd, _⟩ => a :: cd.ns :: (valsAt g cd.ns).flatMap (withCode g)
  | _ => []
def adrs (g : Addr → Option Obj) : List Addr := mainGlobals :: (valsAt g mainGlobals).flatMap (topOne g)
def part (g : Addr → Option Obj) : PySem.W.Frag := He.frT g (adrs g)
def seenY (g : Addr → Option Obj) : He.AlX := (He.obsT fa fn [] (part g), exB (part g) && He.tabsB g tf (part g))
theorem saysY {w : World} {h : Heap} (e : seenY h.get? = He.valX fn [] w) : He.SaysX fa fn [] tf exB w h (part h.get?) := by
  obtain ⟨hx, ht⟩ := Bool.and_eq_true_iff.mp (congrArg Prod.snd e)
  have each (p) (hp : p ∈ tf) := Bool.and_eq_true_iff.mp (List.all_eq_true.mp ht p hp)
  have tab (p) (hp : p ∈ tf) : ∃ o, h.get? (He.cT (part h.get?) p).2 = some o ∧ He.emptyTab o = true := by
    have q := (each p hp).2
    split at q
    · rename_i o ho
      exact ⟨o, ho, q⟩
    · cases q
  refine ⟨congrArg Prod.fst e, hx, fun p hp => (each p hp).1, fun p hp => ?_, fun p hp => ?_⟩
  · obtain ⟨o, ho, ht⟩ := tab p hp
    exact He.frT_none ho ht
  · obtain ⟨o, ho, ht⟩ := tab p hp
    rw [ho, He.emptyTab_eq ht]
def hk : PySem.W.Hook where
  α := He.AlX
  obs := fun s => seenY s.heap.get?
  val := He.valX fn []
  says := fun w h => ∃ K : PySem.W.Frag, K.In h ∧ He.SaysX fa fn [] tf exB w h K
  of := fun _ _ e => ⟨_, He.frT_in, saysY e⟩
  keeps := fun _ _ _ ⟨K, hK, c⟩ k => ⟨K, hK.keeps k, ⟨c.t, c.more, c.hd, c.out, fun p hp => k _ _ (c.empty p hp)⟩⟩
abbrev Rw : PySem.W.OpenRow := PySem.W.OpenLaw.row PySem.Challenge.rw_livenames_k31_whole_most_weight_kept
def ob (s : PySem.W.SharedT) : He.AlX := seenY (HandSHeadRun.getT s)
theorem ob_eq (s : PySem.W.SharedT) : ob s = hk.obs s.abs := by
  show seenY (HandSHeadRun.getT s) = seenY s.abs.heap.get?
  rw [show HandSHeadRun.getT s = s.abs.heap.get? from funext (HandSHeadRun.getT_eq s)]
theorem run (w : World) : HandSHeadRun.RunEq Rw (PySem.W.view Rw.prog [lawAt]) hk ob 6000 loose w := by
  intro os
  kernel_rfl
end Lv.Hd

set_option Elab.async false
set_option linter.all false
set_option maxRecDepth 100000
set_option maxHeartbeats 1000000
/-! Lay1: data without a heap (D), cells of the memory (MO), what a heap holds of them (Hs). -/
namespace Lv
open PySem PySem.Spec PyProof.Rows L2

/-- a value as data: none, bools, ints, texts, lists (sq true) and tuples (sq false) that stand still, a cell of the memory, an instance that stands still, the script -/
inductive D where
  | non
  | bl (b : Bool)
  | int (i : Int)
  | str (s : Str)
  | sq (k : Bool) (ds : List D)
  | ref (a : Addr)
  | obj (C : Addr) (fs : List (Str × D))
  | scr (ns : List Int)
  | nd (ks : List (Option Str))

/-- a mutable cell -/
inductive MO where
  | lst (ds : List D)
  | dK (kvs : List (Key × D))
  | ins (C : Addr) (fs : List (Str × D))

abbrev Mem := Addr → Option MO
def mupd (M : Mem) (a : Addr) (o : MO) : Mem := fun b => if b = a then some o else M b
def mdel (M : Mem) (a : Addr) : Mem := fun b => if b = a then none else M b
theorem mupd_same {M : Mem} {a : Addr} {o : MO} : mupd M a o a = some o := by unfold mupd; rw [if_pos rfl]
theorem mupd_ne {M : Mem} {a b : Addr} {o : MO} (h : b ≠ a) : mupd M a o b = M b := by unfold mupd; rw [if_neg h]
theorem mdel_ne {M : Mem} {a b : Addr} (h : b ≠ a) : mdel M a b = M b := by unfold mdel; rw [if_neg h]
theorem mdel_same {M : Mem} {a : Addr} : mdel M a a = none := by unfold mdel; rw [if_pos rfl]
theorem mupd_mupd {M : Mem} {a : Addr} {o u : MO} : mupd (mupd M a o) a u = mupd M a u := by
  funext b; unfold mupd; split <;> rfl
theorem mne {M : Mem} {a b : Addr} {o : MO} (h : M a = some o) (h' : M b = none) : a ≠ b := by
  intro e; subst e; rw [h] at h'; cases h'

def hoOf : Bool → List V → HO
  | true, xs => .lst xs
  | false, xs => .tup xs

/-- the fixed part: program, world, written part, tables of code objects -/
structure Cz where
  P : Program
  w : World
  K : PySem.W.Frag
  T : List (Addr × Str)

def nkey : Option Str → Option Key
  | none => none
  | some x => some (Sum.inr x)
/-- the dict of these keys (None and texts), each with True -/
def NdO (z : Cz) (a : Addr) (ks : List (Option Str)) : HO :=
  .ext fun h => (a == sysModules) = false ∧ h.DictOf (noneKind z.P z.w) a (ks.map fun k => (nkey k, Value.bool true))

def Ex (B B' : Hp) : Prop := ∀ a o, B a = some o → B' a = some o
theorem Ex.refl {B : Hp} : Ex B B := fun _ _ h => h
theorem Ex.trans {B B1 B2 : Hp} (a : Ex B B1) (b : Ex B1 B2) : Ex B B2 := fun c o h => b c o (a c o h)
theorem Ex.new {B : Hp} {p : Addr} {o : HO} (h : B p = none) : Ex B (upd B p o) := fun a u e => by
  rw [upd_ne (ne_of_none e h)]
  exact e

mutual
inductive Rp (z : Cz) (B : Hp) : D → V → Prop
  | non : Rp z B .non .non
  | bl (b : Bool) : Rp z B (.bl b) (.bl b)
  | int (i : Int) : Rp z B (.int i) (.int i)
  | str (s : Str) : Rp z B (.str s) (.str s)
  | sq {k : Bool} {ds : List D} {p : Addr} {vs : List V} : B p = some (hoOf k vs) → vs.length ≤ sizeLine → Rps z B ds vs → Rp z B (.sq k ds) (.ref p)
  | ref (a : Addr) : Rp z B (.ref a) (.ref a)
  | obj {C p dx : Addr} {fs : List (Str × D)} {ws : List (Str × V)} : B p = some (.ins C dx ws) → Rpf z B fs ws → Rp z B (.obj C fs) (.ref p)
  | scr {ns : List Int} {p : Addr} : SqL z.K B p (ns.map V.int) → Rp z B (.scr ns) (.ref p)
  | nd {ks : List (Option Str)} {p : Addr} : B p = some (NdO z p ks) → Rp z B (.nd ks) (.ref p)
inductive Rps (z : Cz) (B : Hp) : List D → List V → Prop
  | nil : Rps z B [] []
  | cons {d : D} {ds : List D} {v : V} {vs : List V} : Rp z B d v → Rps z B ds vs → Rps z B (d :: ds) (v :: vs)
inductive Rpf (z : Cz) (B : Hp) : List (Str × D) → List (Str × V) → Prop
  | nil : Rpf z B [] []
  | cons {f : Str} {d : D} {ds : List (Str × D)} {v : V} {vs : List (Str × V)} : Rp z B d v → Rpf z B ds vs → Rpf z B ((f, d) :: ds) ((f, v) :: vs)
end
inductive Rpk (z : Cz) (B : Hp) : List (Key × D) → List (Key × V) → Prop
  | nil : Rpk z B [] []
  | cons {f : Key} {d : D} {ds : List (Key × D)} {v : V} {vs : List (Key × V)} : Rp z B d v → Rpk z B ds vs → Rpk z B ((f, d) :: ds) ((f, v) :: vs)

section
variable {z : Cz} {B B' : Hp}
theorem ex_l {K : PySem.W.Frag} {H H' : Hp} {a : Addr} {xs : List V} (e : Ex H H') (h : SqL K H a xs) : SqL K H' a xs := by
  rcases h with (h | ⟨o, h⟩) | h
  · exact .inl (.inl (e _ _ h))
  · exact .inl (.inr ⟨o, e _ _ h⟩)
  · exact .inr h
mutual
theorem Rp.mono (e : Ex B B') : ∀ {d : D} {v : V}, Rp z B d v → Rp z B' d v
  | _, _, .non => .non
  | _, _, .bl b => .bl b
  | _, _, .int i => .int i
  | _, _, .str s => .str s
  | _, _, .sq h l r => .sq (e _ _ h) l (Rps.mono e r)
  | _, _, .ref a => .ref a
  | _, _, .obj h r => .obj (e _ _ h) (Rpf.mono e r)
  | _, _, .scr h => .scr (ex_l e h)
  | _, _, .nd h => .nd (e _ _ h)
theorem Rps.mono (e : Ex B B') : ∀ {ds : List D} {vs : List V}, Rps z B ds vs → Rps z B' ds vs
  | _, _, .nil => .nil
  | _, _, .cons r t => .cons (Rp.mono e r) (Rps.mono e t)
theorem Rpf.mono (e : Ex B B') : ∀ {ds : List (Str × D)} {vs : List (Str × V)}, Rpf z B ds vs → Rpf z B' ds vs
  | _, _, .nil => .nil
  | _, _, .cons r t => .cons (Rp.mono e r) (Rpf.mono e t)
end
theorem Rpk.mono (e : Ex B B') : ∀ {ds : List (Key × D)} {vs : List (Key × V)}, Rpk z B ds vs → Rpk z B' ds vs
  | _, _, .nil => .nil
  | _, _, .cons r t => .cons (r.mono e) (Rpk.mono e t)
theorem Rps.length : ∀ {ds : List D} {vs : List V}, Rps z B ds vs → vs.length = ds.length
  | _, _, .nil => rfl
  | _, _, .cons _ t => congrArg Nat.succ (Rps.length t)
theorem Rpk.length : ∀ {ds : List (Key × D)} {vs : List (Key × V)}, Rpk z B ds vs → vs.length = ds.length
  | _, _, .nil => rfl
  | _, _, .cons _ t => congrArg Nat.succ (Rpk.length t)
theorem Rpf.length : ∀ {ds : List (Str × D)} {vs : List (Str × V)}, Rpf z B ds vs → vs.length = ds.length
  | _, _, .nil => rfl
  | _, _, .cons _ t => congrArg Nat.succ (Rpf.length t)
theorem Rps.get : ∀ {ds : List D} {vs : List V} {i : Nat} {d : D}, Rps z B ds vs → ds[i]? = some d → ∃ v, vs[i]? = some v ∧ Rp z B d v
  | _, _, _, _, .nil, e => by simp at e
  | _, _, 0, _, .cons r _, e => by simp at e; subst e; exact ⟨_, rfl, r⟩
  | _, _, i + 1, x, .cons _ t, e => by
    obtain ⟨u, h1, h2⟩ := Rps.get (i := i) (d := x) t (by simpa using e)
    exact ⟨u, by simpa using h1, h2⟩
theorem Rps.getV : ∀ {ds : List D} {vs : List V} {i : Nat} {v : V}, Rps z B ds vs → vs[i]? = some v → ∃ d, ds[i]? = some d ∧ Rp z B d v
  | _, _, _, _, .nil, e => by simp at e
  | _, _, 0, _, .cons r _, e => by simp at e; subst e; exact ⟨_, rfl, r⟩
  | _, _, i + 1, x, .cons _ t, e => by
    obtain ⟨u, h1, h2⟩ := Rps.getV (i := i) (v := x) t (by simpa using e)
    exact ⟨u, by simpa using h1, h2⟩
theorem Rps.append : ∀ {ds es : List D} {vs ws : List V}, Rps z B ds vs → Rps z B es ws → Rps z B (ds ++ es) (vs ++ ws)
  | _, _, _, _, .nil, s => s
  | _, _, _, _, .cons r t, s => .cons r (Rps.append t s)
theorem Rps.set {d : D} {v : V} (r : Rp z B d v) : ∀ {ds : List D} {vs : List V} (i : Nat), Rps z B ds vs → Rps z B (ds.set i d) (vs.set i v)
  | _, _, _, .nil => .nil
  | _, _, 0, .cons _ t => .cons r t
  | _, _, i + 1, .cons q t => .cons q (Rps.set r i t)
theorem Rps.take : ∀ {ds : List D} {vs : List V} (n : Nat), Rps z B ds vs → Rps z B (ds.take n) (vs.take n)
  | _, _, 0, _ => .nil
  | _, _, _ + 1, .nil => .nil
  | _, _, n + 1, .cons r t => .cons r (Rps.take n t)
theorem Rps.drop : ∀ {ds : List D} {vs : List V} (n : Nat), Rps z B ds vs → Rps z B (ds.drop n) (vs.drop n)
  | _, _, 0, r => r
  | _, _, _ + 1, .nil => .nil
  | _, _, n + 1, .cons _ t => Rps.drop n t
theorem Rps.reverse : ∀ {ds : List D} {vs : List V}, Rps z B ds vs → Rps z B ds.reverse vs.reverse
  | _, _, .nil => .nil
  | _, _, .cons r t => by
    rw [List.reverse_cons, List.reverse_cons]
    exact (Rps.reverse t).append (.cons r .nil)
theorem Rps.eraseIdx : ∀ {ds : List D} {vs : List V} (n : Nat), Rps z B ds vs → Rps z B (ds.eraseIdx n) (vs.eraseIdx n)
  | _, _, _, .nil => .nil
  | _, _, 0, .cons _ t => t
  | _, _, n + 1, .cons r t => .cons r (Rps.eraseIdx n t)
/-- the ints, texts, bools of a list of such -/
theorem Rps.map {α : Type} {f : α → D} {g : α → V} (h : ∀ x v, Rp z B (f x) v → v = g x) : ∀ {xs : List α} {vs : List V}, Rps z B (xs.map f) vs → vs = xs.map g
  | [], _, r => by cases r; rfl
  | x :: xs, _, r => by
    cases r with
    | cons a b => rw [h x _ a, Rps.map h b]; rfl
theorem Rps.of_map {α : Type} {f : α → D} {g : α → V} (h : ∀ x, Rp z B (f x) (g x)) : ∀ xs : List α, Rps z B (xs.map f) (xs.map g)
  | [] => .nil
  | x :: xs => .cons (h x) (Rps.of_map h xs)
theorem Rp.int_inv {i : Int} {v : V} (h : Rp z B (.int i) v) : v = .int i := by cases h; rfl
theorem Rp.str_inv {i : Str} {v : V} (h : Rp z B (.str i) v) : v = .str i := by cases h; rfl
theorem Rp.bl_inv {i : Bool} {v : V} (h : Rp z B (.bl i) v) : v = .bl i := by cases h; rfl
theorem Rp.non_inv {v : V} (h : Rp z B .non v) : v = .non := by cases h; rfl
theorem Rp.ref_inv {a : Addr} {v : V} (h : Rp z B (.ref a) v) : v = .ref a := by cases h; rfl
theorem Rps.ints {ns : List Int} {vs : List V} (h : Rps z B (ns.map D.int) vs) : vs = ns.map V.int := Rps.map (fun _ _ r => r.int_inv) h
theorem Rps.strs {ns : List Str} {vs : List V} (h : Rps z B (ns.map D.str) vs) : vs = ns.map V.str := Rps.map (fun _ _ r => r.str_inv) h
theorem Rps.bls {ns : List Bool} {vs : List V} (h : Rps z B (ns.map D.bl) vs) : vs = ns.map V.bl := Rps.map (fun _ _ r => r.bl_inv) h
theorem Rp.sq_inv {k : Bool} {ds : List D} {v : V} (h : Rp z B (.sq k ds) v) : ∃ p vs, v = .ref p ∧ B p = some (hoOf k vs) ∧ vs.length ≤ sizeLine ∧ Rps z B ds vs := by
  cases h with
  | sq a l b => exact ⟨_, _, rfl, a, l, b⟩
theorem Rpf.lookup {f : Str} {d : D} : ∀ {fs : List (Str × D)} {ws : List (Str × V)}, Rpf z B fs ws → fs.lookup f = some d → ∃ v, ws.lookup f = some v ∧ Rp z B d v
  | _, _, .nil, e => by cases e
  | _, _, .cons (f := g) r t, e => by
    rw [List.lookup_cons] at e ⊢
    cases q : f == g with
    | true =>
      rw [q] at e
      cases e
      exact ⟨_, rfl, r⟩
    | false =>
      rw [q] at e
      exact Rpf.lookup t e
theorem Rpf.lookup_none {f : Str} : ∀ {fs : List (Str × D)} {ws : List (Str × V)}, Rpf z B fs ws → fs.lookup f = none → ws.lookup f = none
  | _, _, .nil, e => rfl
  | _, _, .cons (f := g) r t, e => by
    rw [List.lookup_cons] at e ⊢
    cases q : f == g with
    | true =>
      rw [q] at e
      cases e
    | false =>
      rw [q] at e
      exact Rpf.lookup_none t e
end

/-! ### the heap -/
inductive MOk (z : Cz) (B : Hp) : MO → Option HO → Prop
  | lst {ds : List D} {vs : List V} : Rps z B ds vs → MOk z B (.lst ds) (some (.lst vs))
  | dK {ds : List (Key × D)} {vs : List (Key × V)} : Rpk z B ds vs → MOk z B (.dK ds) (some (.dK vs))
  | ins {C dx : Addr} {ds : List (Str × D)} {vs : List (Str × V)} : Rpf z B ds vs → MOk z B (.ins C ds) (some (.ins C dx vs))
theorem MOk.mono {z : Cz} {B B' : Hp} (e : Ex B B') {m : MO} {o : Option HO} (h : MOk z B m o) : MOk z B' m o := by
  cases h with
  | lst r => exact .lst (r.mono e)
  | dK r => exact .dK (r.mono e)
  | ins r => exact .ins (r.mono e)

/-- what is neither a table nor an opaque thing -/
def Plain : HO → Prop
  | .tbl _ => False
  | .ext _ => False
  | _ => True

structure Hs (z : Cz) (B F : Hp) (M : Mem) (H : Hp) : Prop where
  b : ∀ a o, B a = some o → H a = some o
  f : ∀ a o, F a = some o → H a = some o ∧ B a = none ∧ M a = none
  m : ∀ a o, M a = some o → B a = none ∧ MOk z B o (H a)
  nb : ∀ a ps, B a ≠ some (.tbl ps)
  nf : ∀ a ps, F a ≠ some (.tbl ps)
  tb : LamX.Tabs z.T H

section
variable {z : Cz} {B F : Hp} {M : Mem} {H : Hp}
theorem tabs_upd {T : List (Addr × Str)} {a : Addr} {o u : HO} (t : LamX.Tabs T H) (h : H a = some o) (hp : Plain o) : LamX.Tabs T (upd H a u) := fun p hp' => by
  obtain ⟨ps, a1, a2, a3⟩ := t p hp'
  have n1 : p.1 ≠ a := fun e => by
    rw [e, h] at a1
    cases a1
    exact hp
  refine ⟨ps, by rw [upd_ne n1]; exact a1, a2, fun pos cv hc => ?_⟩
  obtain ⟨c, e1, e2⟩ := a3 pos cv hc
  have n2 : c ≠ a := fun e => by
    rw [e, h] at e2
    have e2' := Option.some.inj e2
    rw [e2'] at hp
    exact hp
  exact ⟨c, e1, by rw [upd_ne n2]; exact e2⟩
theorem tabs_new {T : List (Addr × Str)} {a : Addr} {u : HO} (t : LamX.Tabs T H) (h : H a = none) : LamX.Tabs T (upd H a u) :=
  t.ext fun b o e => by rw [upd_ne (ne_of_none e h)]; exact e
theorem Hs.fresh (s : Hs z B F M H) {p : Addr} (hp : H p = none) : B p = none ∧ F p = none ∧ M p = none := by
  refine ⟨?_, ?_, ?_⟩
  · cases q : B p with
    | none => rfl
    | some o =>
      have q2 := s.b p o q
      rw [hp] at q2
      cases q2
  · cases q : F p with
    | none => rfl
    | some o =>
      have q2 := (s.f p o q).1
      rw [hp] at q2
      cases q2
  · cases q : M p with
    | none => rfl
    | some o =>
      have q2 := (s.m p o q).2
      rw [hp] at q2
      cases q2
/-- a new object, known from now on -/
theorem Hs.newB (s : Hs z B F M H) {p : Addr} {o : HO} (hp : H p = none) (ho : ∀ ps, o ≠ .tbl ps) : Hs z (upd B p o) F M (upd H p o) := by
  obtain ⟨h1, h2, h3⟩ := s.fresh hp
  have e : Ex B (upd B p o) := Ex.new h1
  refine ⟨fun a u q => ?_, fun a u q => ?_, fun a u q => ?_, fun a ps q => ?_, s.nf, tabs_new s.tb hp⟩
  · by_cases ha : a = p
    · subst ha
      rw [upd_same] at q ⊢
      exact q
    · rw [upd_ne ha] at q ⊢
      exact s.b a u q
  · have na := ne_of_none q h2
    rw [upd_ne na, upd_ne na]
    exact s.f a u q
  · have na := mne q h3
    rw [upd_ne na, upd_ne na]
    exact ⟨(s.m a u q).1, (s.m a u q).2.mono e⟩
  · by_cases ha : a = p
    · subst ha
      rw [upd_same] at q
      exact ho ps (Option.some.inj q)
    · rw [upd_ne ha] at q
      exact s.nb a ps q
/-- a new object, a cell -/
theorem Hs.newM (s : Hs z B F M H) {p : Addr} {o : HO} {m : MO} (hp : H p = none) (k : MOk z B m (some o)) : Hs z B F (mupd M p m) (upd H p o) := by
  obtain ⟨h1, h2, h3⟩ := s.fresh hp
  refine ⟨fun a u q => ?_, fun a u q => ?_, fun a u q => ?_, s.nb, s.nf, tabs_new s.tb hp⟩
  · rw [upd_ne (ne_of_none q h1)]
    exact s.b a u q
  · have na := ne_of_none q h2
    rw [upd_ne na, mupd_ne na]
    exact s.f a u q
  · by_cases ha : a = p
    · subst ha
      rw [mupd_same] at q
      rw [upd_same]
      cases q
      exact ⟨h1, k⟩
    · rw [mupd_ne ha] at q
      rw [upd_ne ha]
      exact s.m a u q
/-- a new object that the frame keeps -/
theorem Hs.newF (s : Hs z B F M H) {p : Addr} {o : HO} (hp : H p = none) (ho : ∀ ps, o ≠ .tbl ps) : Hs z B (upd F p o) M (upd H p o) := by
  obtain ⟨h1, h2, h3⟩ := s.fresh hp
  refine ⟨fun a u q => ?_, fun a u q => ?_, fun a u q => ?_, s.nb, fun a ps q => ?_, tabs_new s.tb hp⟩
  · rw [upd_ne (ne_of_none q h1)]
    exact s.b a u q
  · by_cases ha : a = p
    · subst ha
      rw [upd_same] at q ⊢
      exact ⟨q, h1, h3⟩
    · rw [upd_ne ha] at q ⊢
      exact s.f a u q
  · have na := mne q h3
    rw [upd_ne na]
    exact s.m a u q
  · by_cases ha : a = p
    · subst ha
      rw [upd_same] at q
      exact ho ps (Option.some.inj q)
    · rw [upd_ne ha] at q
      exact s.nf a ps q
/-- an object of the frame is changed -/
theorem Hs.setF (s : Hs z B F M H) {p : Addr} {o u : HO} (hp : F p = some o) (hpl : Plain o) (ho : ∀ ps, u ≠ .tbl ps) : Hs z B (upd F p u) M (upd H p u) := by
  obtain ⟨h1, h2, h3⟩ := s.f p o hp
  refine ⟨fun a v q => ?_, fun a v q => ?_, fun a v q => ?_, s.nb, fun a ps q => ?_, tabs_upd s.tb h1 hpl⟩
  · rw [upd_ne (ne_of_none q h2)]
    exact s.b a v q
  · by_cases ha : a = p
    · subst ha
      rw [upd_same] at q ⊢
      exact ⟨q, h2, h3⟩
    · rw [upd_ne ha] at q ⊢
      exact s.f a v q
  · have na := mne q h3
    rw [upd_ne na]
    exact s.m a v q
  · by_cases ha : a = p
    · subst ha
      rw [upd_same] at q
      exact ho ps (Option.some.inj q)
    · rw [upd_ne ha] at q
      exact s.nf a ps q
/-- a cell of the memory goes to the frame as it is -/
theorem Hs.toF (s : Hs z B F M H) {p : Addr} {m : MO} {o : HO} (hp : M p = some m) (h : H p = some o) (ho : ∀ ps, o ≠ .tbl ps) : Hs z B (upd F p o) (mdel M p) H := by
  refine ⟨s.b, fun a u q => ?_, fun a u q => ?_, s.nb, fun a ps q => ?_, s.tb⟩
  · by_cases ha : a = p
    · subst ha
      rw [upd_same] at q
      cases q
      exact ⟨h, (s.m _ _ hp).1, mdel_same⟩
    · rw [upd_ne ha] at q
      rw [mdel_ne ha]
      exact s.f a u q
  · by_cases ha : a = p
    · subst ha
      rw [mdel_same] at q
      cases q
    · rw [mdel_ne ha] at q
      exact s.m a u q
  · by_cases ha : a = p
    · subst ha
      rw [upd_same] at q
      exact ho ps (Option.some.inj q)
    · rw [upd_ne ha] at q
      exact s.nf a ps q
def hdel (F : Hp) (p : Addr) : Hp := fun b => if b = p then none else F b
theorem hdel_ne {F : Hp} {a p : Addr} (h : a ≠ p) : hdel F p a = F a := by unfold hdel; rw [if_neg h]
theorem hdel_same {F : Hp} {p : Addr} : hdel F p p = none := by unfold hdel; rw [if_pos rfl]
/-- the frame lets an object go: into the memory -/
theorem Hs.ofF (s : Hs z B F M H) {p : Addr} {m : MO} {o : HO} (hp : F p = some o) (k : MOk z B m (some o)) : Hs z B (hdel F p) (mupd M p m) H := by
  obtain ⟨h1, h2, h3⟩ := s.f p o hp
  refine ⟨s.b, fun a u q => ?_, fun a u q => ?_, s.nb, fun a ps q => ?_, s.tb⟩
  · by_cases ha : a = p
    · subst ha
      rw [hdel_same] at q
      cases q
    · rw [hdel_ne ha] at q
      rw [mupd_ne ha]
      exact s.f a u q
  · by_cases ha : a = p
    · subst ha
      rw [mupd_same] at q
      cases q
      rw [h1]
      exact ⟨h2, k⟩
    · rw [mupd_ne ha] at q
      exact s.m a u q
  · by_cases ha : a = p
    · subst ha
      rw [hdel_same] at q
      cases q
    · rw [hdel_ne ha] at q
      exact s.nf a ps q
/-- .. into what is known -/
theorem Hs.ofFB (s : Hs z B F M H) {p : Addr} {o : HO} (hp : F p = some o) : Hs z (upd B p o) (hdel F p) M H ∧ Ex B (upd B p o) := by
  obtain ⟨h1, h2, h3⟩ := s.f p o hp
  have e : Ex B (upd B p o) := Ex.new h2
  refine ⟨⟨fun a u q => ?_, fun a u q => ?_, fun a u q => ?_, fun a ps q => ?_, fun a ps q => ?_, s.tb⟩, e⟩
  · by_cases ha : a = p
    · subst ha
      rw [upd_same] at q
      cases q
      exact h1
    · rw [upd_ne ha] at q
      exact s.b a u q
  · by_cases ha : a = p
    · subst ha
      rw [hdel_same] at q
      cases q
    · rw [hdel_ne ha] at q
      rw [upd_ne ha]
      exact s.f a u q
  · have na := mne q h3
    rw [upd_ne na]
    exact ⟨(s.m a u q).1, (s.m a u q).2.mono e⟩
  · by_cases ha : a = p
    · subst ha
      rw [upd_same] at q
      cases q
      exact s.nf _ _ hp
    · rw [upd_ne ha] at q
      exact s.nb a ps q
  · by_cases ha : a = p
    · subst ha
      rw [hdel_same] at q
      cases q
    · rw [hdel_ne ha] at q
      exact s.nf a ps q
/-- a cell is changed -/
theorem Hs.setM (s : Hs z B F M H) {p : Addr} {o : HO} {m m' : MO} (hp : M p = some m) (k : MOk z B m' (some o)) : Hs z B F (mupd M p m') (upd H p o) := by
  obtain ⟨h1, h2⟩ := s.m p m hp
  have hpl : ∃ u, H p = some u ∧ Plain u := by
    cases q : H p with
    | none => rw [q] at h2; cases h2
    | some u =>
      rw [q] at h2
      cases h2 <;> exact ⟨_, rfl, trivial⟩
  obtain ⟨u, hu, pu⟩ := hpl
  refine ⟨fun a v q => ?_, fun a v q => ?_, fun a v q => ?_, s.nb, s.nf, tabs_upd s.tb hu pu⟩
  · rw [upd_ne (ne_of_none q h1)]
    exact s.b a v q
  · have na : a ≠ p := (mne hp (s.f a v q).2.2).symm
    rw [upd_ne na, mupd_ne na]
    exact s.f a v q
  · by_cases ha : a = p
    · subst ha
      rw [mupd_same] at q
      rw [upd_same]
      cases q
      exact ⟨h1, k⟩
    · rw [mupd_ne ha] at q
      rw [upd_ne ha]
      exact s.m a v q
theorem Hs.drop (s : Hs z B F M H) {M' : Mem} (h : ∀ a o, M' a = some o → M a = some o) : Hs z B F M' H :=
  ⟨s.b, fun a o q => ⟨(s.f a o q).1, (s.f a o q).2.1, by
    cases e : M' a with
    | none => rfl
    | some u => exact absurd ((s.f a o q).2.2.symm.trans (h a u e)) (by intro z; cases z)⟩, fun a o q => s.m a o (h a o q), s.nb, s.nf, s.tb⟩
/-- a cell's list stands still from now on -/
theorem Hs.freeze (s : Hs z B F M H) {p : Addr} {ds : List D} (hp : M p = some (.lst ds)) (hl : ds.length ≤ sizeLine) : ∃ B', Ex B B' ∧ Hs z B' F (mdel M p) H ∧ Rp z B' (.sq true ds) (.ref p) := by
  obtain ⟨h1, h2⟩ := s.m p _ hp
  obtain ⟨vs, hv, hr⟩ : ∃ vs, H p = some (.lst vs) ∧ Rps z B ds vs := by
    cases q : H p with
    | none => rw [q] at h2; cases h2
    | some u =>
      rw [q] at h2
      cases h2 with
      | lst r => exact ⟨_, rfl, r⟩
  have s1 := s.toF hp hv (fun ps q => by cases q)
  obtain ⟨s2, e⟩ := s1.ofFB (p := p) upd_same
  refine ⟨_, e, ⟨s2.b, fun a o q => ?_, s2.m, s2.nb, s.nf, s2.tb⟩, .sq (k := true) upd_same (by rw [hr.length]; exact hl) (hr.mono e)⟩
  have na : a ≠ p := (mne hp (s.f a o q).2.2).symm
  exact s2.f a o (by rw [hdel_ne na, upd_ne na]; exact q)
/-- an instance stands still from now on -/
theorem Hs.freezeI (s : Hs z B F M H) {p C : Addr} {ds : List (Str × D)} (hp : M p = some (.ins C ds)) : ∃ B', Ex B B' ∧ Hs z B' F (mdel M p) H ∧ Rp z B' (.obj C ds) (.ref p) := by
  obtain ⟨h1, h2⟩ := s.m p _ hp
  obtain ⟨dx, vs, hv, hr⟩ : ∃ dx vs, H p = some (.ins C dx vs) ∧ Rpf z B ds vs := by
    cases q : H p with
    | none => rw [q] at h2; cases h2
    | some u =>
      rw [q] at h2
      cases h2 with
      | ins r => exact ⟨_, _, rfl, r⟩
  have s1 := s.toF hp hv (fun ps q => by cases q)
  obtain ⟨s2, e⟩ := s1.ofFB (p := p) upd_same
  refine ⟨_, e, ⟨s2.b, fun a o q => ?_, s2.m, s2.nb, s.nf, s2.tb⟩, .obj upd_same (hr.mono e)⟩
  have na : a ≠ p := (mne hp (s.f a o q).2.2).symm
  exact s2.f a o (by rw [hdel_ne na, upd_ne na]; exact q)
end
end Lv

set_option Elab.async false
set_option linter.all false
set_option maxRecDepth 100000
set_option maxHeartbeats 1000000
/-! Lay2: what a reading does, told over data and cells alone: EV (expressions), ET (tests), EA (argument lists), EG (targets), EI (walks), EVS (statements). -/
namespace Lv
open PySem PySem.Spec PyProof.Rows L2 StX

abbrev Gam := List (Option D)
def wipeG (Γ : Gam) : List Nat → Gam
  | [] => Γ
  | v :: vs => (wipeG Γ vs).set v none
def Slots (z : Cz) (B : Hp) (σ : L2.St) (Γ : Gam) : Prop := σ.length = Γ.length ∧ ∀ (i : Nat) (d : D), Γ[i]? = some (some d) → ∃ v, σ[i]? = some (some v) ∧ Rp z B d v
section
variable {z : Cz} {B B' : Hp} {σ : L2.St} {Γ : Gam}
theorem Slots.mono (s : Slots z B σ Γ) (e : Ex B B') : Slots z B' σ Γ := ⟨s.1, fun i d h => by
  obtain ⟨v, h1, h2⟩ := s.2 i d h
  exact ⟨v, h1, h2.mono e⟩⟩
theorem Slots.set {d : D} {v : V} (s : Slots z B σ Γ) (r : Rp z B d v) (i : Nat) : Slots z B (σ.set i (some v)) (Γ.set i (some d)) := by
  refine ⟨by rw [List.length_set, List.length_set]; exact s.1, fun j e h => ?_⟩
  by_cases hj : i = j
  · subst hj
    by_cases hl : i < Γ.length
    · rw [List.getElem?_set_self hl] at h
      cases h
      exact ⟨v, by rw [List.getElem?_set_self (by rw [s.1]; exact hl)], r⟩
    · rw [List.getElem?_eq_none (by simpa using hl)] at h
      cases h
  · rw [List.getElem?_set_ne hj] at h ⊢
    exact s.2 j e h
theorem Slots.unset (s : Slots z B σ Γ) (i : Nat) : Slots z B (σ.set i none) (Γ.set i none) := by
  refine ⟨by rw [List.length_set, List.length_set]; exact s.1, fun j e h => ?_⟩
  by_cases hj : i = j
  · subst hj
    by_cases hl : i < Γ.length
    · rw [List.getElem?_set_self hl] at h
      cases h
    · rw [List.getElem?_eq_none (by simpa using hl)] at h
      cases h
  · rw [List.getElem?_set_ne hj] at h ⊢
    exact s.2 j e h
theorem Slots.wipe (s : Slots z B σ Γ) : ∀ vs : List Nat, Slots z B (L2.wipe σ vs) (wipeG Γ vs)
  | [] => s
  | v :: vs => (Slots.wipe s vs).unset v
/-- known less -/
theorem Slots.less {Γ' : Gam} (s : Slots z B σ Γ) (hl : Γ'.length = Γ.length) (h : ∀ (i : Nat) (d : D), Γ'[i]? = some (some d) → Γ[i]? = some (some d)) : Slots z B σ Γ' := ⟨s.1.trans hl.symm, fun i d q => s.2 i d (h i d q)⟩
end
theorem wipe_set {j : Nat} : ∀ {vs : List Nat} {σ : L2.St} {x : Option V}, j ∈ vs → wipe (σ.set j x) vs = wipe σ vs
  | [], _, _, h => nomatch h
  | v :: vs, σ, x, h => by
    unfold wipe
    by_cases hv : v = j
    · by_cases hm : j ∈ vs
      · rw [wipe_set hm]
      · subst hv
        have hc : ∀ (us : List Nat), v ∉ us → wipe (σ.set v x) us = (wipe σ us).set v x := by
          intro us
          induction us with
          | nil => intro _; rfl
          | cons u us ih =>
            intro hu
            have h1 : v ≠ u := fun e => hu (by rw [e]; exact List.mem_cons_self)
            have h2 : v ∉ us := fun e => hu (List.mem_cons_of_mem _ e)
            unfold wipe
            rw [ih h2, List.set_comm _ _ h1]
        rw [hc vs hm, List.set_set]
    · rw [wipe_set (by
        rcases List.mem_cons.mp h with e | e
        · exact absurd e.symm hv
        · exact e)]
theorem wipe_wipe (σ : L2.St) : ∀ vs us : List Nat, (∀ v ∈ vs, v ∈ us) → wipe (wipe σ vs) us = wipe σ us
  | [], us, _ => rfl
  | v :: vs, us, h => by
    show wipe ((wipe σ vs).set v none) us = wipe σ us
    rw [wipe_set (h v List.mem_cons_self), wipe_wipe σ vs us fun w hw => h w (List.mem_cons_of_mem _ hw)]

/-- the end of an expression's run -/
abbrev Fi (z : Cz) (B F : Hp) (P : D → Mem → Prop) (Q : VK) : Prop := ∀ d M', P d M' → ∀ v B' H', Ex B B' → Rp z B' d v → Hs z B' F M' H' → Q v H'
def EV (z : Cz) (te : TE) (Γ : Gam) (M : Mem) (P : D → Mem → Prop) : Prop :=
  ∀ B F σ H, Slots z B σ Γ → Hs z B F M H → ∀ Q : VK, Fi z B F P Q → te σ H Q
def ET (z : Cz) (tt : TT) (Γ : Gam) (M : Mem) (P : Bool → Mem → Prop) : Prop :=
  ∀ B F σ H, Slots z B σ Γ → Hs z B F M H → ∀ Q : Bool → Hp → Prop, (∀ b M', P b M' → ∀ B' H', Ex B B' → Hs z B' F M' H' → Q b H') → tt σ H Q
def EA (z : Cz) (ta : TA) (Γ : Gam) (M : Mem) (P : List D → Mem → Prop) : Prop :=
  ∀ B F σ H, Slots z B σ Γ → Hs z B F M H → ∀ Q : List V → Hp → Prop, (∀ ds M', P ds M' → ∀ vs B' H', Ex B B' → Rps z B' ds vs → Hs z B' F M' H' → Q vs H') → ta σ H Q
/-- a part of a slice -/
def EO (z : Cz) (to : TO) (Γ : Gam) (M : Mem) (P : Option Int → Mem → Prop) : Prop :=
  ∀ B F σ H, Slots z B σ Γ → Hs z B F M H → ∀ Q : Option Int → Hp → Prop, (∀ o M', P o M' → ∀ B' H', Ex B B' → Hs z B' F M' H' → Q o H') → to σ H Q
/-- a target; js: the slots that it may set -/
def EG (z : Cz) (g : TG) (js : List Nat) (d : D) (Γ : Gam) (M : Mem) (k : Gam → Mem → Prop) : Prop :=
  ∀ B F σ H v, Slots z B σ Γ → Hs z B F M H → Rp z B d v → ∀ Q : L2.St → Hp → Prop, (∀ Γ' M', k Γ' M' → ∀ B' σ' H', Ex B B' → Slots z B' σ' Γ' → Hs z B' F M' H' → (∀ vs, (∀ j ∈ js, j ∈ vs) → wipe σ' vs = wipe σ vs) → Q σ' H') → g v σ H Q
def EGs (z : Cz) (g : TGs) (js : List Nat) (ds : List D) (Γ : Gam) (M : Mem) (k : Gam → Mem → Prop) : Prop :=
  ∀ B F σ H vs, Slots z B σ Γ → Hs z B F M H → Rps z B ds vs → ∀ Q : L2.St → Hp → Prop, (∀ Γ' M', k Γ' M' → ∀ B' σ' H', Ex B B' → Slots z B' σ' Γ' → Hs z B' F M' H' → (∀ vs, (∀ j ∈ js, j ∈ vs) → wipe σ' vs = wipe σ vs) → Q σ' H') → g vs σ H Q

structure WalkD (z : Cz) (J : It) (B0 F0 : Hp) (G : Mem → Prop) (xs : List D) : Prop where
  goes : ∀ i B F M H, i < xs.length → Hs z B F M H → Ex B0 B → Ex F0 F → G M → J.go i H
  stops : ∀ B F M H, Hs z B F M H → Ex B0 B → Ex F0 F → G M → J.stop xs.length H
  yields : ∀ i B F M H x H' d, xs[i]? = some d → Hs z B F M H → Ex B0 B → Ex F0 F → G M → J.yld i H x H' → ∃ B', Ex B B' ∧ Hs z B' F M H' ∧ Rp z B' d x
/-- a walk: its items, what of the memory must stand meanwhile -/
def EI (z : Cz) (wi : TI) (Γ : Gam) (M : Mem) (R : List D → (Mem → Prop) → Mem → Prop) : Prop :=
  ∀ B F σ H, Slots z B σ Γ → Hs z B F M H → ∀ RR : It → Hp → Prop, (∀ xs G M', R xs G M' → ∀ J B' H', Ex B B' → Hs z B' F M' H' → WalkD z J B' F G xs → RR J H') → wi σ H RR

/-- what is wanted behind a statement -/
structure PN where
  nx : Gam → Mem → Prop
  rt : D → Mem → Prop
  bk : Gam → Mem → Prop := fun _ _ => False
  ct : Gam → Mem → Prop := fun _ _ => False
abbrev Ln (z : Cz) (B F : Hp) (k : Gam → Mem → Prop) (q : L2.St → Hp → Prop) : Prop := ∀ Γ' M', k Γ' M' → ∀ B' σ' H', Ex B B' → Slots z B' σ' Γ' → Hs z B' F M' H' → q σ' H'
structure Lk (z : Cz) (B F : Hp) (E : PN) (D : Ends) : Prop where
  nx : Ln z B F E.nx D.nx
  rt : Fi z B F E.rt D.rt
  bk : Ln z B F E.bk D.bk
  ct : Ln z B F E.ct D.ct
def EVS (z : Cz) (ts : TS) (Γ : Gam) (M : Mem) (E : PN) : Prop :=
  ∀ B F σ H D, Slots z B σ Γ → Hs z B F M H → Lk z B F E D → ts D σ H
theorem Fi.mono {z : Cz} {B B1 F : Hp} {P : D → Mem → Prop} {Q : VK} (h : Fi z B F P Q) (e : Ex B B1) : Fi z B1 F P Q := fun d M' p v B' H' e' r s => h d M' p v B' H' (e.trans e') r s
theorem Lk.mono {z : Cz} {B B1 F : Hp} {E : PN} {D : Ends} (h : Lk z B F E D) (e : Ex B B1) : Lk z B1 F E D :=
  ⟨fun Γ' M' p B' σ' H' e' r s => h.nx Γ' M' p B' σ' H' (e.trans e') r s, h.rt.mono e, fun Γ' M' p B' σ' H' e' r s => h.bk Γ' M' p B' σ' H' (e.trans e') r s, fun Γ' M' p B' σ' H' e' r s => h.ct Γ' M' p B' σ' H' (e.trans e') r s⟩

section
variable {z : Cz} {Γ : Gam} {M : Mem} {te ta tb tc : TE} {P : D → Mem → Prop}
/-! ### weakening -/
theorem EV.imp {P' : D → Mem → Prop} (h : EV z te Γ M P) (k : ∀ d M', P d M' → P' d M') : EV z te Γ M P' := fun B F σ H sl hs Q q => h B F σ H sl hs Q fun d M' p => q d M' (k d M' p)
theorem ET.imp {tt : TT} {P P' : Bool → Mem → Prop} (h : ET z tt Γ M P) (k : ∀ d M', P d M' → P' d M') : ET z tt Γ M P' := fun B F σ H sl hs Q q => h B F σ H sl hs Q fun d M' p => q d M' (k d M' p)
theorem EA.imp {tt : TA} {P P' : List D → Mem → Prop} (h : EA z tt Γ M P) (k : ∀ d M', P d M' → P' d M') : EA z tt Γ M P' := fun B F σ H sl hs Q q => h B F σ H sl hs Q fun d M' p => q d M' (k d M' p)
theorem EVS.imp {ts : TS} {E E' : PN} (h : EVS z ts Γ M E) (k1 : ∀ g m, E.nx g m → E'.nx g m) (k2 : ∀ g m, E.rt g m → E'.rt g m) (k3 : ∀ g m, E.bk g m → E'.bk g m) (k4 : ∀ g m, E.ct g m → E'.ct g m) : EVS z ts Γ M E' :=
  fun B F σ H D sl hs l => h B F σ H D sl hs ⟨fun g m p => l.nx g m (k1 g m p), fun g m p => l.rt g m (k2 g m p), fun g m p => l.bk g m (k3 g m p), fun g m p => l.ct g m (k4 g m p)⟩
theorem EVS.less {ts : TS} {E : PN} {Γ' : Gam} (h : EVS z ts Γ' M E) (hl : Γ'.length = Γ.length) (hg : ∀ (i : Nat) (d : D), Γ'[i]? = some (some d) → Γ[i]? = some (some d)) : EVS z ts Γ M E :=
  fun B F σ H D sl hs l => h B F σ H D (sl.less hl hg) hs l
theorem EVS.drop {ts : TS} {E : PN} {M' : Mem} (h : EVS z ts Γ M' E) (hm : ∀ a o, M' a = some o → M a = some o) : EVS z ts Γ M E :=
  fun B F σ H D sl hs l => h B F σ H D sl (hs.drop hm) l
theorem EV.drop {M' : Mem} (h : EV z te Γ M' P) (hm : ∀ a o, M' a = some o → M a = some o) : EV z te Γ M P :=
  fun B F σ H sl hs Q q => h B F σ H sl (hs.drop hm) Q q
/-- the list that came back stands still from now on -/
theorem EV.freeze (h : EV z te Γ M fun d M' => ∃ p ds, d = .ref p ∧ M' p = some (.lst ds) ∧ ds.length ≤ sizeLine ∧ P (.sq true ds) (mdel M' p)) : EV z te Γ M P :=
  fun B F σ H sl hs Q q => h B F σ H sl hs Q fun d M' ⟨p, ds, e, hp, hl, k⟩ v B' H' e1 r s => by
    subst e
    obtain ⟨B2, e2, s2, r2⟩ := s.freeze hp hl
    have : v = .ref p := r.ref_inv
    subst this
    exact q _ _ k _ B2 H' (e1.trans e2) r2 s2
/-- the list at a name stands still from now on -/
theorem EVS.freeze {ts : TS} {E : PN} (i : Nat) {p : Addr} {ds : List D} (hi : Γ[i]? = some (some (.ref p))) (hp : M p = some (.lst ds)) (hl : ds.length ≤ sizeLine) (h : EVS z ts (Γ.set i (some (.sq true ds))) (mdel M p) E) : EVS z ts Γ M E :=
  fun B F σ H D sl hs l => by
    obtain ⟨B2, e2, s2, r2⟩ := hs.freeze hp hl
    refine h B2 F σ H D ?_ s2 (l.mono e2)
    obtain ⟨v, h1, h2⟩ := sl.2 i _ hi
    have : v = .ref p := h2.ref_inv
    subst this
    have s3 := (sl.mono e2).set r2 i
    have e3 : σ.set i (some (.ref p)) = σ := by
      apply List.ext_getElem?
      intro j
      by_cases hj : i = j
      · subst hj
        rw [List.getElem?_set_self (List.getElem?_eq_some_iff.mp h1).1, h1]
      · rw [List.getElem?_set_ne hj]
    rw [e3] at s3
    exact s3

/-! ### names, constants -/
theorem ev_var {i : Nat} {d : D} (h : Γ[i]? = some (some d)) (k : P d M) : EV z (tVar i) Γ M P := fun B F σ H sl hs Q q => by
  obtain ⟨v, h1, h2⟩ := sl.2 i d h
  exact ⟨v, h1, q d M k v B H Ex.refl h2 hs⟩
theorem ev_int {i : Int} (k : P (.int i) M) : EV z (tC (.int i)) Γ M P := fun B F σ H sl hs Q q => q _ M k _ B H Ex.refl (.int i) hs
theorem ev_str {i : Str} (k : P (.str i) M) : EV z (tC (.str i)) Γ M P := fun B F σ H sl hs Q q => q _ M k _ B H Ex.refl (.str i) hs
theorem ev_bl {i : Bool} (k : P (.bl i) M) : EV z (tC (.bl i)) Γ M P := fun B F σ H sl hs Q q => q _ M k _ B H Ex.refl (.bl i) hs
theorem ev_non (k : P .non M) : EV z (tC .non) Γ M P := fun B F σ H sl hs Q q => q _ M k _ B H Ex.refl .non hs

/-! ### operators by values -/
class OpD (z : Cz) (r : R2) (f : outParam (D → D → Mem → (D → Mem → Prop) → Prop)) : Prop where
  ok : ∀ {B F : Hp} {M : Mem} {H : Hp} {v1 v2 : V} {d1 d2 : D} {Q : VK} {P : D → Mem → Prop}, Rp z B d1 v1 → Rp z B d2 v2 → Hs z B F M H → f d1 d2 M P → Fi z B F P Q → r v1 v2 H Q
theorem ev_op {r : R2} {f : D → D → Mem → (D → Mem → Prop) → Prop} [o : OpD z r f] (h : EV z ta Γ M fun d1 M1 => EV z tb Γ M1 fun d2 M2 => f d1 d2 M2 P) : EV z (tOp r ta tb) Γ M P :=
  fun B F σ H sl hs Q q => h B F σ H sl hs _ fun d1 M1 h1 v1 B1 H1 e1 r1 s1 => h1 B1 F σ H1 (sl.mono e1) s1 _ fun d2 M2 h2 v2 B2 H2 e2 r2 s2 =>
    o.ok (r1.mono e2) r2 s2 h2 (Fi.mono (Fi.mono q e1) e2)
class UnD (z : Cz) (r : V → Hp → VK → Prop) (f : outParam (D → Mem → (D → Mem → Prop) → Prop)) : Prop where
  ok : ∀ {B F : Hp} {M : Mem} {H : Hp} {v1 : V} {d1 : D} {Q : VK} {P : D → Mem → Prop}, Rp z B d1 v1 → Hs z B F M H → f d1 M P → Fi z B F P Q → r v1 H Q
theorem ev_un {r : V → Hp → VK → Prop} {f : D → Mem → (D → Mem → Prop) → Prop} [o : UnD z r f] (h : EV z ta Γ M fun d1 M1 => f d1 M1 P) : EV z (tUn r ta) Γ M P :=
  fun B F σ H sl hs Q q => h B F σ H sl hs _ fun d1 M1 h1 v1 B1 H1 e1 r1 s1 => o.ok r1 s1 h1 (Fi.mono q e1)
/-- a built-in called with values -/
class CbD (z : Cz) (r : List V → Hp → VK → Prop) (f : outParam (List D → Mem → (D → Mem → Prop) → Prop)) : Prop where
  ok : ∀ {B F : Hp} {M : Mem} {H : Hp} {vs : List V} {ds : List D} {Q : VK} {P : D → Mem → Prop}, Rps z B ds vs → Hs z B F M H → f ds M P → Fi z B F P Q → r vs H Q
theorem ev_cb {r : List V → Hp → VK → Prop} {f : List D → Mem → (D → Mem → Prop) → Prop} {t : TA} [o : CbD z r f] (h : EA z t Γ M fun ds M1 => f ds M1 P) : EV z (tCB r t) Γ M P :=
  fun B F σ H sl hs Q q => h B F σ H sl hs _ fun d1 M1 h1 v1 B1 H1 e1 r1 s1 => o.ok r1 s1 h1 (Fi.mono q e1)
/-- a built-in's method -/
class MtD (z : Cz) (T : String) (r : V → List V → Hp → VK → Prop) (f : outParam (D → List D → Mem → (D → Mem → Prop) → Prop)) : Prop where
  ty : ∀ {B F : Hp} {M : Mem} {H : Hp} {v : V} {d : D}, Rp z B d v → Hs z B F M H → (∃ ds, (∃ p, d = .ref p ∧ M p = some (.lst ds)) ∨ d = .sq true ds) → tyV z.K T v H
  ok : ∀ {B F : Hp} {M : Mem} {H : Hp} {v : V} {d : D} {vs : List V} {ds : List D} {Q : VK} {P : D → Mem → Prop}, Rp z B d v → Rps z B ds vs → Hs z B F M H → f d ds M P → Fi z B F P Q → r v vs H Q
theorem ev_bm {r : V → List V → Hp → VK → Prop} {T : String} {f : D → List D → Mem → (D → Mem → Prop) → Prop} {to : TE} {t : TA} [o : MtD z T r f]
    (h : EV z to Γ M fun d M1 => (∃ ds, (∃ p, d = .ref p ∧ M1 p = some (.lst ds)) ∨ d = .sq true ds) ∧ EA z t Γ M1 fun ds M2 => f d ds M2 P) : EV z (tBM z.K T r to t) Γ M P :=
  fun B F σ H sl hs Q q => h B F σ H sl hs _ fun d M1 h1 v B1 H1 e1 r1 s1 => ⟨o.ty r1 s1 h1.1, h1.2 B1 F σ H1 (sl.mono e1) s1 _ fun ds M2 h2 vs B2 H2 e2 r2 s2 =>
    o.ok (r1.mono e2) r2 s2 h2 (Fi.mono (Fi.mono q e1) e2)⟩

/-! ### tests, and, or, not -/
theorem et_test {t : TE} {P : Bool → Mem → Prop} (h : EV z t Γ M fun d M1 => ∃ b, d = .bl b ∧ P b M1) : ET z (tTest t) Γ M P :=
  fun B F σ H sl hs Q q => h B F σ H sl hs _ fun d M1 ⟨b, e, p⟩ v B1 H1 e1 r1 s1 => by
    subst e
    exact ⟨b, r1.bl_inv, q b M1 p B1 H1 e1 s1⟩
theorem et_b {t : TE} {P : Bool → Mem → Prop} (h : EV z t Γ M fun d M1 => ∃ b, d = .bl b ∧ P b M1) : ET z (tB t) Γ M P :=
  fun B F σ H sl hs Q q => h B F σ H sl hs _ fun d M1 ⟨b, e, p⟩ v B1 H1 e1 r1 s1 => by
    subst e
    exact ⟨b, r1.bl_inv, q b M1 p B1 H1 e1 s1⟩
theorem et_and {t u : TT} {P : Bool → Mem → Prop} (h : ET z t Γ M fun b M1 => (b = true → ET z u Γ M1 P) ∧ (b = false → P false M1)) : ET z (tAnd t u) Γ M P :=
  fun B F σ H sl hs Q q => h B F σ H sl hs _ fun b M1 h1 B1 H1 e1 s1 => by
    cases b with
    | true => exact iteT (h1.1 rfl B1 F σ H1 (sl.mono e1) s1 Q fun b M' p B' H' e' s' => q b M' p B' H' (e1.trans e') s')
    | false => exact iteF (q false M1 (h1.2 rfl) B1 H1 e1 s1)
theorem et_or {t u : TT} {P : Bool → Mem → Prop} (h : ET z t Γ M fun b M1 => (b = true → P true M1) ∧ (b = false → ET z u Γ M1 P)) : ET z (tOr t u) Γ M P :=
  fun B F σ H sl hs Q q => h B F σ H sl hs _ fun b M1 h1 B1 H1 e1 s1 => by
    cases b with
    | true => exact iteT (q true M1 (h1.1 rfl) B1 H1 e1 s1)
    | false => exact iteF (h1.2 rfl B1 F σ H1 (sl.mono e1) s1 Q fun b M' p B' H' e' s' => q b M' p B' H' (e1.trans e') s')
theorem et_not {t : TT} {P : Bool → Mem → Prop} (h : ET z t Γ M fun b M1 => P (!b) M1) : ET z (tNot t) Γ M P :=
  fun B F σ H sl hs Q q => h B F σ H sl hs _ fun b M1 h1 B1 H1 e1 s1 => q (!b) M1 h1 B1 H1 e1 s1
theorem et_yes {P : Bool → Mem → Prop} (h : P true M) : ET z tYes Γ M P := fun B F σ H sl hs Q q => q true M h B H Ex.refl hs
theorem ev_andV (h : EV z ta Γ M fun d M1 => ∃ b, d = .bl b ∧ (b = true → EV z tb Γ M1 P) ∧ (b = false → P (.bl false) M1)) : EV z (tAndV ta tb) Γ M P :=
  fun B F σ H sl hs Q q => h B F σ H sl hs _ fun d M1 ⟨b, e, h1, h2⟩ v B1 H1 e1 r1 s1 => by
    subst e
    refine ⟨b, r1.bl_inv, ?_⟩
    cases b with
    | true => exact iteT (h1 rfl B1 F σ H1 (sl.mono e1) s1 Q (Fi.mono q e1))
    | false => exact iteF (q _ M1 (h2 rfl) _ B1 H1 e1 (.bl false) s1)
theorem ev_orV (h : EV z ta Γ M fun d M1 => ∃ b, d = .bl b ∧ (b = true → P (.bl true) M1) ∧ (b = false → EV z tb Γ M1 P)) : EV z (tOrV ta tb) Γ M P :=
  fun B F σ H sl hs Q q => h B F σ H sl hs _ fun d M1 ⟨b, e, h1, h2⟩ v B1 H1 e1 r1 s1 => by
    subst e
    refine ⟨b, r1.bl_inv, ?_⟩
    cases b with
    | true => exact iteT (q _ M1 (h1 rfl) _ B1 H1 e1 (.bl true) s1)
    | false => exact iteF (h2 rfl B1 F σ H1 (sl.mono e1) s1 Q (Fi.mono q e1))
theorem ev_notV (h : EV z ta Γ M fun d M1 => ∃ b, d = .bl b ∧ P (.bl (!b)) M1) : EV z (tNotV ta) Γ M P :=
  fun B F σ H sl hs Q q => h B F σ H sl hs _ fun d M1 ⟨b, e, h1⟩ v B1 H1 e1 r1 s1 => by
    subst e
    exact ⟨b, r1.bl_inv, q _ M1 h1 _ B1 H1 e1 (.bl _) s1⟩
theorem ev_if {t : TT} (h : ET z t Γ M fun b M1 => (b = true → EV z ta Γ M1 P) ∧ (b = false → EV z tb Γ M1 P)) : EV z (tIf t ta tb) Γ M P :=
  fun B F σ H sl hs Q q => h B F σ H sl hs _ fun b M1 h1 B1 H1 e1 s1 => by
    cases b with
    | true => exact iteT (h1.1 rfl B1 F σ H1 (sl.mono e1) s1 Q (Fi.mono q e1))
    | false => exact iteF (h1.2 rfl B1 F σ H1 (sl.mono e1) s1 Q (Fi.mono q e1))
/-- a op b op' c -/
theorem ev_chain {r r' : R2} {f f' : D → D → Mem → (D → Mem → Prop) → Prop} [o : OpD z r f] [o' : OpD z r' f']
    (h : EV z ta Γ M fun d1 M1 => EV z tb Γ M1 fun d2 M2 => f d1 d2 M2 fun d M3 => ∃ b, d = .bl b ∧ (b = true → EV z tc Γ M3 fun d3 M4 => f' d2 d3 M4 P) ∧ (b = false → P (.bl false) M3)) : EV z (tChain r r' ta tb tc) Γ M P :=
  fun B F σ H sl hs Q q => h B F σ H sl hs _ fun d1 M1 h1 v1 B1 H1 e1 r1 s1 => h1 B1 F σ H1 (sl.mono e1) s1 _ fun d2 M2 h2 v2 B2 H2 e2 r2 s2 =>
    o.ok (r1.mono e2) r2 s2 h2 fun d M3 ⟨b, e, k1, k2⟩ v B3 H3 e3 r3 s3 => by
      subst e
      refine ⟨b, r3.bl_inv, ?_⟩
      cases b with
      | true => exact iteT (k1 rfl B3 F σ H3 (((sl.mono e1).mono e2).mono e3) s3 _ fun d3 M4 h4 v4 B4 H4 e4 r4 s4 => o'.ok ((r2.mono e3).mono e4) r4 s4 h4 (Fi.mono q (((e1.trans e2).trans e3).trans e4)))
      | false => exact iteF (q _ M3 (k2 rfl) _ B3 H3 ((e1.trans e2).trans e3) (.bl false) s3)

/-! ### argument lists, displays -/
theorem ea_nil {P : List D → Mem → Prop} (k : P [] M) : EA z tNil Γ M P := fun B F σ H sl hs Q q => q [] M k [] B H Ex.refl .nil hs
theorem ea_cons {t : TA} {P : List D → Mem → Prop} (h : EV z te Γ M fun d M1 => EA z t Γ M1 fun ds M2 => P (d :: ds) M2) : EA z (tCons te t) Γ M P :=
  fun B F σ H sl hs Q q => h B F σ H sl hs _ fun d M1 h1 v B1 H1 e1 r1 s1 => h1 B1 F σ H1 (sl.mono e1) s1 _ fun ds M2 h2 vs B2 H2 e2 r2 s2 =>
    q _ M2 h2 _ B2 H2 (e1.trans e2) (.cons (r1.mono e2) r2) s2
theorem ea_star {t : TA} {P : List D → Mem → Prop} (h : EV z te Γ M fun d M1 => ∃ k ds, d = .sq k ds ∧ EA z t Γ M1 fun es M2 => P (ds ++ es) M2) : EA z (tStar z.K te t) Γ M P :=
  fun B F σ H sl hs Q q => h B F σ H sl hs _ fun d M1 ⟨k, ds, e, h1⟩ v B1 H1 e1 r1 s1 => by
    subst e
    obtain ⟨p, vs, e2, hb, hl, rs⟩ := r1.sq_inv
    subst e2
    have hH := s1.b _ _ hb
    refine ⟨p, vs, rfl, ?_, h1 B1 F σ H1 (sl.mono e1) s1 _ fun es M2 h2 ws B2 H2 e2 r2 s2 => q _ M2 h2 _ B2 H2 (e1.trans e2) ((rs.mono e2).append r2) s2⟩
    cases k with
    | true => exact .inr (.inl (.inl hH))
    | false => exact .inl (.inl (.inl hH))
/-- a tuple, a list that stands still | a list, a cell -/
theorem ev_tup {t : TA} (h : EA z t Γ M fun ds M1 => ds.length ≤ sizeLine ∧ P (.sq false ds) M1) : EV z (tTup t) Γ M P :=
  fun B F σ H sl hs Q q => h B F σ H sl hs _ fun ds M1 ⟨hl, k⟩ vs B1 H1 e1 r1 s1 => ⟨by rw [r1.length]; exact hl, fun p hp => by
    have e2 : Ex B1 (upd B1 p (.tup vs)) := Ex.new (s1.fresh hp).1
    exact q _ M1 k _ _ _ (e1.trans e2) (.sq (k := false) upd_same (by rw [r1.length]; exact hl) (r1.mono e2)) (s1.newB hp fun ps x => by cases x)⟩
theorem ev_lst {t : TA} (h : EA z t Γ M fun ds M1 => ds.length ≤ sizeLine ∧ P (.sq true ds) M1) : EV z (tLst t) Γ M P :=
  fun B F σ H sl hs Q q => h B F σ H sl hs _ fun ds M1 ⟨hl, k⟩ vs B1 H1 e1 r1 s1 => ⟨by rw [r1.length]; exact hl, fun p hp => by
    have e2 : Ex B1 (upd B1 p (.lst vs)) := Ex.new (s1.fresh hp).1
    exact q _ M1 k _ _ _ (e1.trans e2) (.sq (k := true) upd_same (by rw [r1.length]; exact hl) (r1.mono e2)) (s1.newB hp fun ps x => by cases x)⟩
theorem ev_lstM {t : TA} (h : EA z t Γ M fun ds M1 => ds.length ≤ sizeLine ∧ ∀ p, M1 p = none → P (.ref p) (mupd M1 p (.lst ds))) : EV z (tLst t) Γ M P :=
  fun B F σ H sl hs Q q => h B F σ H sl hs _ fun ds M1 ⟨hl, k⟩ vs B1 H1 e1 r1 s1 => ⟨by rw [r1.length]; exact hl, fun p hp =>
    q _ _ (k p (s1.fresh hp).2.2) _ B1 _ e1 (.ref p) (s1.newM hp (.lst r1))⟩
theorem ev_dnewM (k : ∀ p, M p = none → P (.ref p) (mupd M p (.dK []))) : EV z tDNewK Γ M P := fun B F σ H sl hs Q q p hp =>
  q _ _ (k p (hs.fresh hp).2.2) _ B _ Ex.refl (.ref p) (hs.newM hp (.dK .nil))
/-! ### fields -/
theorem ev_fld {f : Str} (h : EV z te Γ M fun d M1 => ∃ C fs e, ((∃ p, d = .ref p ∧ M1 p = some (.ins C fs)) ∨ d = .obj C fs) ∧ Cls z.K C ∧ NoAttr z.K C f ∧ fs.lookup f = some e ∧ P e M1) : EV z (tFld z.K te f) Γ M P :=
  fun B F σ H sl hs Q q => h B F σ H sl hs _ fun d M1 ⟨C, fs, e, hd, hc, hn, hl, k⟩ v B1 H1 e1 r1 s1 => by
    have main : ∃ p dx ws, v = .ref p ∧ H1 p = some (.ins C dx ws) ∧ Rpf z B1 fs ws := by
      rcases hd with ⟨p, e2, hp⟩ | e2
      · subst e2
        have hv := r1.ref_inv
        obtain ⟨_, hm⟩ := s1.m p _ hp
        cases q2 : H1 p with
        | none => rw [q2] at hm; cases hm
        | some u =>
          rw [q2] at hm
          cases hm with
          | ins r => exact ⟨p, _, _, hv, q2, r⟩
      · subst e2
        cases r1 with
        | obj hb r => exact ⟨_, _, _, rfl, s1.b _ _ hb, r⟩
    obtain ⟨p, dx, ws, ev, hp, r⟩ := main
    obtain ⟨u, h1, h2⟩ := r.lookup hl
    exact ⟨p, C, dx, ws, u, ev, hp, hc, hn, h1, q _ M1 k _ B1 H1 e1 h2 s1⟩
end
end Lv

set_option Elab.async false
set_option linter.all false
set_option maxRecDepth 100000
set_option maxHeartbeats 1000000
/-! Lay3: operators, subscripts, built-ins and methods over data. -/
namespace Lv
open PySem PySem.Spec PyProof.Rows L2 StX

/-! ### flat data, equality -/
def fv : D → V
  | .non => .non
  | .bl b => .bl b
  | .int i => .int i
  | .str s => .str s
  | .ref a => .ref a
  | _ => .non
def flatD : D → Bool
  | .non => true
  | .bl _ => true
  | .int _ => true
  | .str _ => true
  | _ => false
def inD (d : D) (ds : List D) : Bool := ds.any fun e => eqV (fv e) (fv d)
mutual
def py : D → PyData
  | .non => .none
  | .bl b => .bool b
  | .int i => .int i
  | .str s => .str s
  | .sq true ds => .list (pys ds)
  | .sq false ds => .tuple (pys ds)
  | _ => .none
def pys : List D → List PyData
  | [] => []
  | d :: ds => py d :: pys ds
end
mutual
def isData : D → Bool
  | .non => true
  | .bl _ => true
  | .int _ => true
  | .str _ => true
  | .sq _ ds => areData ds
  | _ => false
def areData : List D → Bool
  | [] => true
  | d :: ds => isData d && areData ds
end
section
variable {z : Cz} {B F : Hp} {M : Mem} {H : Hp}
theorem Rp.flat {d : D} {v : V} (r : Rp z B d v) (h : flatD d = true) : v = fv d ∧ flatV v = true := by
  cases r <;> first | exact ⟨rfl, rfl⟩ | (cases h)
theorem Rps.flat : ∀ {ds : List D} {vs : List V}, Rps z B ds vs → ds.all flatD = true → vs = ds.map fv ∧ vs.all flatV = true
  | _, _, .nil, _ => ⟨rfl, rfl⟩
  | d :: ds, _, .cons r t, h => by
    rw [List.all_cons, Bool.and_eq_true] at h
    obtain ⟨h1, h2⟩ := r.flat h.1
    obtain ⟨h3, h4⟩ := Rps.flat t h.2
    rw [List.all_cons, List.map_cons, h2, h4, h3, h1]
    exact ⟨rfl, rfl⟩
mutual
theorem dpD (hb : ∀ a o, B a = some o → H a = some o) : ∀ (d : D) (v : V), Rp z B d v → isData d = true → Dp z.K H v (py d)
  | .non, _, r, _ => by cases r; exact .non
  | .bl b, _, r, _ => by cases r; exact .bl b
  | .int i, _, r, _ => by cases r; exact .int i
  | .str s, _, r, _ => by cases r; exact .str s
  | .sq true ds, _, r, q => by
    obtain ⟨p, vs, e, h, _, t⟩ := r.sq_inv
    subst e
    exact .lst (.inl (.inl (hb _ _ h))) (dpDs hb ds _ t q)
  | .sq false ds, _, r, q => by
    obtain ⟨p, vs, e, h, _, t⟩ := r.sq_inv
    subst e
    exact .tup (.inl (.inl (hb _ _ h))) (dpDs hb ds _ t q)
  | .ref _, _, _, q => by cases q
  | .obj _ _, _, _, q => by cases q
  | .scr _, _, _, q => by cases q
  | .nd _, _, _, q => by cases q
theorem dpDs (hb : ∀ a o, B a = some o → H a = some o) : ∀ (ds : List D) (vs : List V), Rps z B ds vs → areData ds = true → DpAll z.K H vs (pys ds)
  | [], _, r, _ => by cases r; exact .nil
  | d :: ds, _, r, q => by
    cases r with
    | cons r t =>
      have q' : (isData d && areData ds) = true := q
      rw [Bool.and_eq_true] at q'
      exact .cons (dpD hb d _ r q'.1) (dpDs hb ds _ t q'.2)
end
theorem Rp.dp (hb : ∀ a o, B a = some o → H a = some o) {d : D} {v : V} (r : Rp z B d v) (h : isData d = true) : Dp z.K H v (py d) := dpD hb d v r h
/-- a list: one that stands still, or a cell -/
def IsL (M : Mem) (d : D) (ds : List D) : Prop := d = .sq true ds ∨ ∃ p, d = .ref p ∧ M p = some (.lst ds)
theorem IsL.at_ {d : D} {ds : List D} {v : V} (l : IsL M d ds) (r : Rp z B d v) (s : Hs z B F M H) : ∃ p vs, v = .ref p ∧ H p = some (.lst vs) ∧ Rps z B ds vs := by
  rcases l with e | ⟨p, e, hp⟩
  · subst e
    obtain ⟨p, vs, e1, e2, _, e3⟩ := r.sq_inv
    exact ⟨p, vs, e1, s.b _ _ e2, e3⟩
  · subst e
    obtain ⟨_, hm⟩ := s.m p _ hp
    have e1 := r.ref_inv
    cases q : H p with
    | none => rw [q] at hm; cases hm
    | some u =>
      rw [q] at hm
      cases hm with
      | lst r => exact ⟨p, _, e1, q, r⟩
/-- .. or a tuple, or the script -/
def IsS (M : Mem) (d : D) (ds : List D) : Prop := (∃ k, d = .sq k ds) ∨ (∃ p, d = .ref p ∧ M p = some (.lst ds)) ∨ ∃ ns : List Int, d = .scr ns ∧ ds = ns.map D.int
theorem IsS.at_ {d : D} {ds : List D} {v : V} (l : IsS M d ds) (r : Rp z B d v) (s : Hs z B F M H) : ∃ p vs, v = .ref p ∧ (SqL z.K H p vs ∨ SqT z.K H p vs) ∧ Rps z B ds vs := by
  rcases l with ⟨k, e⟩ | ⟨p, e, hp⟩ | ⟨ns, e, e2⟩
  · subst e
    obtain ⟨p, vs, e1, e2, _, e3⟩ := r.sq_inv
    have hH := s.b _ _ e2
    cases k with
    | true => exact ⟨p, vs, e1, .inl (.inl (.inl hH)), e3⟩
    | false => exact ⟨p, vs, e1, .inr (.inl (.inl hH)), e3⟩
  · obtain ⟨p, vs, e1, e2, e3⟩ := IsL.at_ (.inr ⟨p, e, hp⟩) r s
    exact ⟨p, vs, e1, .inl (.inl (.inl e2)), e3⟩
  · subst e e2
    cases r with
    | scr h => exact ⟨_, _, rfl, .inl (ex_l s.b h), Rps.of_map (fun i => .int i) ns⟩
/-- a new list: it stands still, or is a cell -/
def NewL (ds : List D) (M : Mem) (P : D → Mem → Prop) : Prop := ds.length ≤ sizeLine ∧ (P (.sq true ds) M ∨ ∀ p, M p = none → P (.ref p) (mupd M p (.lst ds)))
theorem NewL.fin {ds : List D} {vs : List V} {P : D → Mem → Prop} {Q : VK} (n : NewL ds M P) (s : Hs z B F M H) (r : Rps z B ds vs) (q : Fi z B F P Q) {p : Addr} (hp : H p = none) : Q (.ref p) (upd H p (.lst vs)) := by
  obtain ⟨hl, k | k⟩ := n
  · have e2 : Ex B (upd B p (.lst vs)) := Ex.new (s.fresh hp).1
    exact q _ M k _ _ _ e2 (.sq (k := true) upd_same (by rw [r.length]; exact hl) (r.mono e2)) (s.newB hp fun ps x => by cases x)
  · exact q _ _ (k p (s.fresh hp).2.2) _ B _ Ex.refl (.ref p) (s.newM hp (.lst r))
def NewT (ds : List D) (M : Mem) (P : D → Mem → Prop) : Prop := ds.length ≤ sizeLine ∧ P (.sq false ds) M
theorem NewT.fin {ds : List D} {vs : List V} {P : D → Mem → Prop} {Q : VK} (n : NewT ds M P) (s : Hs z B F M H) (r : Rps z B ds vs) (q : Fi z B F P Q) {p : Addr} (hp : H p = none) : Q (.ref p) (upd H p (.tup vs)) := by
  obtain ⟨hl, k⟩ := n
  have e2 : Ex B (upd B p (.tup vs)) := Ex.new (s.fresh hp).1
  exact q _ M k _ _ _ e2 (.sq (k := false) upd_same (by rw [r.length]; exact hl) (r.mono e2)) (s.newB hp fun ps x => by cases x)
end

/-! ### operators -/
def int2 (a b : D) (k : Int → Int → Prop) : Prop := ∃ i j, a = .int i ∧ b = .int j ∧ k i j
def rAddU : R2 := fun x y H Q => (rI0 fun i j => .int (i + j)) x y H Q ∨ (fun x y H Q => ∃ i j, x = .str i ∧ y = .str j ∧ i.length + j.length ≤ sizeLine ∧ Q (.str (i ++ j)) H : R2) x y H Q ∨ rCat x y H Q
theorem ox_add {X : Cx} : OpR X (binaryOp .Add) rAddU := OpR.or op_add (OpR.or op_add_str op_cat)
def pAdd : D → D → Mem → (D → Mem → Prop) → Prop := fun a b M P =>
  (int2 a b fun i j => P (.int (i + j)) M) ∨ (∃ i j, a = .str i ∧ b = .str j ∧ i.length + j.length ≤ sizeLine ∧ P (.str (i ++ j)) M) ∨ ∃ xs ys, IsL M a xs ∧ IsL M b ys ∧ NewL (xs ++ ys) M P
instance {z : Cz} : OpD z rAddU pAdd := ⟨fun {B F M H v1 v2 d1 d2 Q P} r1 r2 s f q => by
  rcases f with ⟨i, j, e1, e2, k⟩ | ⟨i, j, e1, e2, hl, k⟩ | ⟨xs, ys, l1, l2, k⟩
  · subst e1 e2
    exact .inl ⟨i, j, r1.int_inv, r2.int_inv, q _ M k _ B H Ex.refl (.int _) s⟩
  · subst e1 e2
    exact .inr (.inl ⟨i, j, r1.str_inv, r2.str_inv, hl, q _ M k _ B H Ex.refl (.str _) s⟩)
  · obtain ⟨p, vs, e1, h1, t1⟩ := l1.at_ r1 s
    obtain ⟨p', ws, e2, h2, t2⟩ := l2.at_ r2 s
    have hl := k.1
    rw [List.length_append] at hl
    exact .inr (.inr ⟨p, p', vs, ws, e1, e2, h1, h2, by rw [t1.length, t2.length]; exact hl, fun a ha => k.fin s (t1.append t2) q ha⟩)⟩
def rSubU : R2 := rI0 fun i j => .int (i - j)
theorem ox_sub {X : Cx} : OpR X (binaryOp .Sub) rSubU := op_sub
instance {z : Cz} : OpD z rSubU (fun a b M P => int2 a b fun i j => P (.int (i - j)) M) := ⟨fun {B F M H v1 v2 d1 d2 Q P} r1 r2 s f q => by
  obtain ⟨i, j, e1, e2, k⟩ := f
  subst e1 e2
  exact ⟨i, j, r1.int_inv, r2.int_inv, q _ M k _ B H Ex.refl (.int _) s⟩⟩
def rMulU : R2 := fun x y H Q => (rI CMul fun i j => .int (i * j)) x y H Q ∨ rRep x y H Q
theorem ox_mul {X : Cx} : OpR X (binaryOp .Mult) rMulU := OpR.or op_mul op_rep
theorem Rps.rep {z : Cz} {B : Hp} {ds : List D} {vs : List V} (r : Rps z B ds vs) : ∀ n : Nat, Rps z B (List.replicate n ds).flatten (List.replicate n vs).flatten
  | 0 => .nil
  | n + 1 => by
    rw [List.replicate_succ, List.replicate_succ, List.flatten_cons, List.flatten_cons]
    exact r.append (Rps.rep r n)
instance {z : Cz} : OpD z rMulU (fun a b M P => (int2 a b fun i j => CMul i j ∧ P (.int (i * j)) M) ∨ ∃ ds k, IsL M a ds ∧ b = .int k ∧ -(2 ^ 63) ≤ k ∧ k < 2 ^ 63 ∧ ds.length * k.toNat ≤ sizeLine ∧ NewL (List.replicate k.toNat ds).flatten M P) := ⟨fun {B F M H v1 v2 d1 d2 Q P} r1 r2 s f q => by
  rcases f with ⟨i, j, e1, e2, h, k⟩ | ⟨ds, k, l, e2, h1, h2, h3, n⟩
  · subst e1 e2
    exact .inl ⟨i, j, r1.int_inv, r2.int_inv, h, q _ M k _ B H Ex.refl (.int _) s⟩
  · subst e2
    obtain ⟨p, vs, e1, hp, t1⟩ := l.at_ r1 s
    exact .inr ⟨p, k, vs, e1, r2.int_inv, hp, h1, h2, by rw [t1.length]; exact h3, fun a ha => n.fin s (t1.rep _) q ha⟩⟩
def rFdU : R2 := rI CDiv fun i j => .int (i / j)
theorem ox_fdiv {X : Cx} : OpR X (binaryOp .FloorDiv) rFdU := op_fdiv
instance {z : Cz} : OpD z rFdU (fun a b M P => int2 a b fun i j => CDiv i j ∧ P (.int (i / j)) M) := ⟨fun {B F M H v1 v2 d1 d2 Q P} r1 r2 s f q => by
  obtain ⟨i, j, e1, e2, h, k⟩ := f
  subst e1 e2
  exact ⟨i, j, r1.int_inv, r2.int_inv, h, q _ M k _ B H Ex.refl (.int _) s⟩⟩
def rMdU : R2 := rI (fun _ j => 0 < j) fun i j => .int (i % j)
theorem ox_mod {X : Cx} : OpR X (binaryOp .Mod) rMdU := op_mod
instance {z : Cz} : OpD z rMdU (fun a b M P => int2 a b fun i j => 0 < j ∧ P (.int (i % j)) M) := ⟨fun {B F M H v1 v2 d1 d2 Q P} r1 r2 s f q => by
  obtain ⟨i, j, e1, e2, h, k⟩ := f
  subst e1 e2
  exact ⟨i, j, r1.int_inv, r2.int_inv, h, q _ M k _ B H Ex.refl (.int _) s⟩⟩
def rPwU : R2 := rI CPow fun i j => .int (i ^ j.toNat)
theorem ox_pow {X : Cx} : OpR X (binaryOp .Pow) rPwU := op_pow
instance {z : Cz} : OpD z rPwU (fun a b M P => int2 a b fun i j => CPow i j ∧ P (.int (i ^ j.toNat)) M) := ⟨fun {B F M H v1 v2 d1 d2 Q P} r1 r2 s f q => by
  obtain ⟨i, j, e1, e2, h, k⟩ := f
  subst e1 e2
  exact ⟨i, j, r1.int_inv, r2.int_inv, h, q _ M k _ B H Ex.refl (.int _) s⟩⟩
def rNegU : V → Hp → VK → Prop := rU fun i => .int (-i)
theorem ox_neg {X : Cx} : UnR X (unaryOp .USub) rNegU := un_neg
instance {z : Cz} : UnD z rNegU (fun a M P => ∃ i, a = .int i ∧ P (.int (-i)) M) := ⟨fun {B F M H v1 d1 Q P} r1 s f q => by
  obtain ⟨i, e1, k⟩ := f
  subst e1
  exact ⟨i, r1.int_inv, q _ M k _ B H Ex.refl (.int _) s⟩⟩
/-! comparisons -/
def rLtU : R2 := rI0 fun i j => .bl (decide (i < j))
def rLeU : R2 := rI0 fun i j => .bl (decide (i ≤ j))
def rGtU : R2 := rI0 fun i j => .bl (decide (j < i))
def rGeU : R2 := rI0 fun i j => .bl (decide (j ≤ i))
theorem ox_lt {X : Cx} : OpR X (compareOp .Lt) rLtU := op_lt
theorem ox_le {X : Cx} : OpR X (compareOp .LtE) rLeU := op_le
theorem ox_gt {X : Cx} : OpR X (compareOp .Gt) rGtU := op_gt
theorem ox_ge {X : Cx} : OpR X (compareOp .GtE) rGeU := op_ge
instance {z : Cz} : OpD z rLtU (fun a b M P => int2 a b fun i j => P (.bl (decide (i < j))) M) := ⟨fun {B F M H v1 v2 d1 d2 Q P} r1 r2 s f q => by
  obtain ⟨i, j, e1, e2, k⟩ := f
  subst e1 e2
  exact ⟨i, j, r1.int_inv, r2.int_inv, q _ M k _ B H Ex.refl (.bl _) s⟩⟩
instance {z : Cz} : OpD z rLeU (fun a b M P => int2 a b fun i j => P (.bl (decide (i ≤ j))) M) := ⟨fun {B F M H v1 v2 d1 d2 Q P} r1 r2 s f q => by
  obtain ⟨i, j, e1, e2, k⟩ := f
  subst e1 e2
  exact ⟨i, j, r1.int_inv, r2.int_inv, q _ M k _ B H Ex.refl (.bl _) s⟩⟩
instance {z : Cz} : OpD z rGtU (fun a b M P => int2 a b fun i j => P (.bl (decide (j < i))) M) := ⟨fun {B F M H v1 v2 d1 d2 Q P} r1 r2 s f q => by
  obtain ⟨i, j, e1, e2, k⟩ := f
  subst e1 e2
  exact ⟨i, j, r1.int_inv, r2.int_inv, q _ M k _ B H Ex.refl (.bl _) s⟩⟩
instance {z : Cz} : OpD z rGeU (fun a b M P => int2 a b fun i j => P (.bl (decide (j ≤ i))) M) := ⟨fun {B F M H v1 v2 d1 d2 Q P} r1 r2 s f q => by
  obtain ⟨i, j, e1, e2, k⟩ := f
  subst e1 e2
  exact ⟨i, j, r1.int_inv, r2.int_inv, q _ M k _ B H Ex.refl (.bl _) s⟩⟩
/-- == of scalars, of data at any depth -/
inductive EqIs : D → D → Bool → Prop
  | sc {a b : D} {c : Bool} : flatD a = true → flatD b = true → scal (fv a) (fv b) = true → decide (fv a = fv b) = c → EqIs a b c
  | da {a b : D} {c : Bool} : isData a = true → isData b = true → SeqAt.shaped (py a) = true → SeqAt.shaped (py b) = true → PyData.eqv (py a) (py b) = c → EqIs a b c
def rEqU (K : PySem.W.Frag) : R2 := fun x y H Q => rEq x y H Q ∨ rEqD K x y H Q
def rNeU (K : PySem.W.Frag) : R2 := fun x y H Q => rNe x y H Q ∨ rNeD K x y H Q
theorem ox_eq {X : Cx} {k : Nat} (hr : Room k X.A) : OpR X (compareOp .Eq) (rEqU X.K) := OpR.or op_eq (op_eqD hr.units)
theorem ox_ne {X : Cx} {k : Nat} (hr : Room k X.A) : OpR X (compareOp .NotEq) (rNeU X.K) := OpR.or op_ne (op_neD hr.units)
instance {z : Cz} : OpD z (rEqU z.K) (fun a b M P => ∃ c, EqIs a b c ∧ P (.bl c) M) := ⟨fun {B F M H v1 v2 d1 d2 Q P} r1 r2 s f q => by
  obtain ⟨c, e, k⟩ := f
  cases e with
  | sc h1 h2 h3 h4 =>
    obtain ⟨e1, _⟩ := r1.flat h1
    obtain ⟨e2, _⟩ := r2.flat h2
    refine .inl ⟨by rw [e1, e2]; exact h3, ?_⟩
    rw [e1, e2, h4]
    exact q _ M k _ B H Ex.refl (.bl _) s
  | da h1 h2 h3 h4 h5 => exact .inr ⟨_, _, Rp.dp s.b r1 h1, Rp.dp s.b r2 h2, h3, h4, by rw [h5]; exact q _ M k _ B H Ex.refl (.bl _) s⟩⟩
instance {z : Cz} : OpD z (rNeU z.K) (fun a b M P => ∃ c, EqIs a b c ∧ P (.bl (!c)) M) := ⟨fun {B F M H v1 v2 d1 d2 Q P} r1 r2 s f q => by
  obtain ⟨c, e, k⟩ := f
  cases e with
  | sc h1 h2 h3 h4 =>
    obtain ⟨e1, _⟩ := r1.flat h1
    obtain ⟨e2, _⟩ := r2.flat h2
    refine .inl ⟨by rw [e1, e2]; exact h3, ?_⟩
    rw [e1, e2, h4]
    exact q _ M k _ B H Ex.refl (.bl _) s
  | da h1 h2 h3 h4 h5 => exact .inr ⟨_, _, Rp.dp s.b r1 h1, Rp.dp s.b r2 h2, h3, h4, by rw [h5]; exact q _ M k _ B H Ex.refl (.bl _) s⟩⟩
/-- x in a list or tuple of flat things; a sign in a text; not in the dict of names -/
def rInG (K : PySem.W.Frag) : R2 := rIn K false
theorem ox_in {X : Cx} : OpR X (compareOp .In) (rInG X.K) := op_in_seq
instance {z : Cz} : OpD z (rInG z.K) (fun a b M P => ∃ ds, IsS M b ds ∧ flatD a = true ∧ ds.all flatD = true ∧ P (.bl (inD a ds)) M) := ⟨fun {B F M H v1 v2 d1 d2 Q P} r1 r2 s f q => by
  obtain ⟨ds, l, h1, h2, k⟩ := f
  obtain ⟨p, vs, e, hp, t⟩ := l.at_ r2 s
  obtain ⟨e1, f1⟩ := r1.flat h1
  obtain ⟨e2, f2⟩ := t.flat h2
  refine ⟨p, vs, e, hp, f1, f2, ?_⟩
  have e3 : inV v1 vs = inD d1 ds := by
    rw [e1, e2]
    unfold inV inD
    rw [List.any_map]
    rfl
  show Q (.bl (inV v1 vs)) H
  rw [e3]
  exact q _ M k _ B H Ex.refl (.bl _) s⟩
def rNotInG (K : PySem.W.Frag) : R2 := rIn K true
theorem ox_notIn {X : Cx} : OpR X (compareOp .NotIn) (rNotInG X.K) := op_notIn_seq
instance {z : Cz} : OpD z (rNotInG z.K) (fun a b M P => ∃ ds, IsS M b ds ∧ flatD a = true ∧ ds.all flatD = true ∧ P (.bl (!inD a ds)) M) := ⟨fun {B F M H v1 v2 d1 d2 Q P} r1 r2 s f q => by
  obtain ⟨ds, l, h1, h2, k⟩ := f
  obtain ⟨p, vs, e, hp, t⟩ := l.at_ r2 s
  obtain ⟨e1, f1⟩ := r1.flat h1
  obtain ⟨e2, f2⟩ := t.flat h2
  refine ⟨p, vs, e, hp, f1, f2, ?_⟩
  have e3 : inV v1 vs = inD d1 ds := by
    rw [e1, e2]
    unfold inV inD
    rw [List.any_map]
    rfl
  show Q (.bl (!inV v1 vs)) H
  rw [e3]
  exact q _ M k _ B H Ex.refl (.bl _) s⟩
def rInSg : R2 := fun x y H Q => ∃ (c : Nat) (w : Str), x = .str ⟨#[c]⟩ ∧ y = .str w ∧ Q (.bl (decide (c ∈ w.cps.toList))) H
theorem ox_inSign {X : Cx} : OpR X (compareOp .In) rInSg := op_in_sign
instance {z : Cz} : OpD z rInSg (fun a b M P => ∃ (c : Nat) (w : Str), a = .str ⟨#[c]⟩ ∧ b = .str w ∧ P (.bl (decide (c ∈ w.cps.toList))) M) := ⟨fun {B F M H v1 v2 d1 d2 Q P} r1 r2 s f q => by
  obtain ⟨c, w, e1, e2, k⟩ := f
  subst e1 e2
  exact ⟨c, w, r1.str_inv, r2.str_inv, q _ M k _ B H Ex.refl (.bl _) s⟩⟩
/-- is None -/
def rIsNU : R2 := fun x y H Q => y = .non ∧ Q (.bl (decide (x = .non))) H
def rNotNU : R2 := fun x y H Q => y = .non ∧ Q (.bl (!decide (x = .non))) H
theorem ox_isN {X : Cx} : OpR X (compareOp .Is) rIsNU := op_isN
theorem ox_notN {X : Cx} : OpR X (compareOp .IsNot) rNotNU := op_notN
def isNonD : D → Bool
  | .non => true
  | _ => false
theorem Rp.non_iff {z : Cz} {B : Hp} {d : D} {v : V} (r : Rp z B d v) : decide (v = .non) = isNonD d := by
  cases r <;> first | rfl | (exact decide_eq_false (by intro q; cases q))
instance {z : Cz} : OpD z rIsNU (fun a b M P => b = .non ∧ P (.bl (isNonD a)) M) := ⟨fun {B F M H v1 v2 d1 d2 Q P} r1 r2 s f q => by
  obtain ⟨e, k⟩ := f
  subst e
  refine ⟨r2.non_inv, ?_⟩
  rw [r1.non_iff]
  exact q _ M k _ B H Ex.refl (.bl _) s⟩
instance {z : Cz} : OpD z rNotNU (fun a b M P => b = .non ∧ P (.bl (!isNonD a)) M) := ⟨fun {B F M H v1 v2 d1 d2 Q P} r1 r2 s f q => by
  obtain ⟨e, k⟩ := f
  subst e
  refine ⟨r2.non_inv, ?_⟩
  rw [r1.non_iff]
  exact q _ M k _ B H Ex.refl (.bl _) s⟩
/-! subscripts -/
theorem ix_map {α β : Type} {R : α → β → Prop} {xs : List α} {ys : List β} (hl : ys.length = xs.length) (g : ∀ (j : Nat) x, xs[j]? = some x → ∃ y, ys[j]? = some y ∧ R x y) {i : Int} {x : α} (h : atI xs i = some x) : ∃ y, atI ys i = some y ∧ R x y := by
  unfold atI at h ⊢
  rw [hl]
  cases q : ixN xs.length i with
  | none => rw [q] at h; cases h
  | some j =>
    rw [q] at h
    exact g j x h
def rIxU (K : PySem.W.Frag) : R2 := rIx K
theorem ox_ix {X : Cx} : IxR X (rIxU X.K) := ix_seq
instance {z : Cz} : OpD z (rIxU z.K) (fun a b M P => ∃ i, b = .int i ∧ ((∃ ds d, IsS M a ds ∧ atI ds i = some d ∧ P d M) ∨ ∃ (w : Str) (c : Nat), a = .str w ∧ w.length ≤ sizeLine ∧ atI w.cps.toList i = some c ∧ P (.str ⟨#[c]⟩) M)) := ⟨fun {B F M H v1 v2 d1 d2 Q P} r1 r2 s f q => by
  obtain ⟨i, e, k⟩ := f
  subst e
  rcases k with ⟨ds, d, l, h, k⟩ | ⟨w, c, e1, hl, h, k⟩
  · obtain ⟨p, vs, ev, hp, t⟩ := l.at_ r1 s
    obtain ⟨u, hu, ru⟩ := ix_map (R := fun d v => Rp z B d v) t.length (fun j x hx => t.get hx) h
    rcases hp with hp | hp
    · exact .inl ⟨p, vs, i, u, ev, r2.int_inv, hp, hu, q _ M k _ B H Ex.refl ru s⟩
    · exact .inr (.inl ⟨p, vs, i, u, ev, r2.int_inv, hp, hu, q _ M k _ B H Ex.refl ru s⟩)
  · subst e1
    exact .inr (.inr ⟨w, i, c, r1.str_inv, r2.int_inv, hl, h, q _ M k _ B H Ex.refl (.str _) s⟩)⟩
end Lv

set_option Elab.async false
set_option linter.all false
set_option maxRecDepth 100000
set_option maxHeartbeats 4000000
/-! Lay4: walks over lists and tuples alike, enumerate over both. -/
namespace Lv
open PySem PySem.Spec PyProof.Rows L2 StX
open AutoSeq1 (wpAny_loadPart')

/-! ### enumerate(tuple) -/
theorem meets_enumerate_newT (l : Addr) (items : Array Value) (n : Nat) (dct : Option Addr) (sl : Array (Option Value)) :
    Meets (Builtin.«enumerate.__new__» ⟨[.type "enumerate", .ref l], []⟩) (fun _ R s => s.heap.get? l = some { cls := .type "tuple", dict := dct, data := .seq items n, slots := sl } ∧
      R (.ok (.ret (.ref (s.heap.push { cls := .type "tuple_iterator", data := .fields #[.ref l, .int 0 0] }).objs.size)))
        { s with heap := (s.heap.push { cls := .type "tuple_iterator", data := .fields #[.ref l, .int 0 0] }).push { cls := .type "enumerate", data := .fields #[.none, .bool false, .ref s.heap.objs.size, rawInt 0, .none, .none] } }) :=
  .of_wp fun prog w A R s h => by
    obtain ⟨hp, g, d, tk, os⟩ := s; obtain ⟨hl, h⟩ := h
    have hsub := sub_enumerate
    have hL : Heap.IsTuple (Shared.heap ⟨hp, g, d, tk, os⟩) l items := ⟨_, hl, rfl, n, rfl⟩
    wp_walk using wpAny_loadPart' hl
    refine wpAny_stack_any fun st => wpAny_pure ?_
    split
    · rename_i c _ _ _ _ _
      cases (c == Value.type "enumerate")
      · wp_walk using wpAny_loadPart' hl, wpAny_pyIter_tuple hL
        exact ⟨_, rfl, h⟩
      · wp_walk using wpAny_loadPart' hl, wpAny_pyIter_tuple hL
        exact ⟨_, rfl, h⟩
    · wp_walk using wpAny_loadPart' hl, wpAny_pyIter_tuple hL
      exact ⟨_, rfl, h⟩
section
variable {prog : Program} {w : World} {A : Around} {E : Value → Shared → Prop} {s : Shared}
theorem call_enumerate_tuple {l : Addr} {items : Array Value} {Q : Value → Shared → Prop} (hL : s.heap.IsTuple l items)
    (h : ∀ h', IsEnum h' (s.heap.objs.size + 1) s.heap.objs.size 0 .none → h'.IsTupleIter s.heap.objs.size l 0 → h'.objs.size = s.heap.objs.size + 2 →
      (∀ b o, s.heap.get? b = some o → h'.get? b = some o) → Q (.ref (s.heap.objs.size + 1)) { s with heap := h' }) :
    wpAny (model prog w) A (call (.type "enumerate") [.ref l]) Q E s := by
  obtain ⟨⟨c, dct, dt, sl⟩, hl, hc, n, hd⟩ := hL
  replace hc : c = .type "tuple" := hc
  replace hd : dt = .seq items n := hd
  subst hc hd
  refine callType_new F.called_enumerate (by decide) (F.typeCall_enumerate_1 _) (F.newCall_enumerate_1 _) (fun obj => F.args_object_init_2 obj _) F.entry_enumerate_new
    (meets_enumerate_newT l items n dct sl) ⟨hl, ?_⟩
  have hz : (s.heap.push { cls := .type "tuple_iterator", data := .fields #[.ref l, .int 0 0] }).objs.size = s.heap.objs.size + 1 := Heap.size_push ..
  show _ ∧ _
  rw [hz]
  have he : IsEnum ((s.heap.push { cls := .type "tuple_iterator", data := .fields #[.ref l, .int 0 0] }).push
      { cls := .type "enumerate", data := .fields #[.none, .bool false, .ref s.heap.objs.size, rawInt 0, .none, .none] }) (s.heap.objs.size + 1) s.heap.objs.size 0 .none := by
    have := Heap.get?_push_size (s.heap.push { cls := .type "tuple_iterator", data := .fields #[.ref l, .int 0 0] })
      (o := { cls := .type "enumerate", data := .fields #[.none, .bool false, .ref s.heap.objs.size, rawInt 0, .none, .none] }) rfl
    rw [hz] at this; exact this
  refine ⟨⟨_, he, rfl⟩, h _ he ⟨_, Heap.get?_push_of_some _ (Heap.get?_push_size _ rfl), rfl, rfl⟩ (by rw [Heap.size_push, hz]) fun b o x => Heap.get?_push_of_some _ (Heap.get?_push_of_some _ x)⟩
end
/-- the tuple at a, each item in a new pair -/
def IteT (K : PySem.W.Frag) (a : Addr) : It :=
  ⟨fun i H => ∃ (xs : List V) (x : V), SqT K H a xs ∧ xs[i]? = some x, fun i H v H' => ∃ T x, v = .ref T ∧ H T = none ∧ H' = upd H T (.tup [.int (i : Nat), x]) ∧ ∀ xs, SqT K H a xs → xs[i]? = some x, fun i H => ∃ xs : List V, SqT K H a xs ∧ xs.length = i⟩
theorem turn_enumT {P : Program} {w : World} {K : PySem.W.Frag} {elts : List Expr} {kk : Nat} {tpos : Pos} (a e it : Addr) :
    Turn P w K (.Tuple elts kk tpos) (IteT K a) [e, it] e (fun i h => (∃ old, IsEnum h e it ((i : Nat) : Int) old) ∧ h.IsTupleIter it a i ∧ e ≠ it) where
  mem := by simp
  obj := fun i h st b hb => by
    obtain ⟨⟨old, he⟩, ⟨o, ho, hc, hd⟩, _⟩ := st
    have e' : b = e ∨ b = it := by simpa using hb
    rcases e' with z | z
    · rw [z]; exact ⟨_, he, fun v q => nomatch q⟩
    · rw [z]; exact ⟨o, ho, fun v q => by rw [hd] at q; cases q⟩
  keep := fun i h h' st k => let ⟨⟨old, he⟩, hi, hne⟩ := st; ⟨⟨old, k e (by simp) _ he⟩, hi.at fun o q => k it (by simp) o q, hne⟩
  item := by
    intro X hP hw hK hc i pins s σ H E I hf st hg
    subst hP hw hK
    obtain ⟨⟨old, he⟩, hit, hne⟩ := st
    obtain ⟨xs, x, hq, hx⟩ := hg
    obtain ⟨its, rv, p, hz⟩ := I.tuple hq
    obtain ⟨u, hu, ru⟩ := rv.get hx
    have hel : e < s.heap.objs.size := Heap.lt_size he
    have hil : it < s.heap.objs.size := by obtain ⟨_, q, _⟩ := hit; exact Heap.lt_size q
    have pT : s.heap.IsTuple a its.toArray := p
    have nea : e ≠ a := by
      rintro rfl
      obtain ⟨o, ho, hc', _⟩ := pT
      have he' : s.heap.get? e = some _ := he
      rw [he'] at ho
      cases ho
      exact absurd (show Value.type "enumerate" = Value.type "tuple" from hc') (by decide)
    have nia : a ≠ it := by
      rintro rfl
      obtain ⟨o, ho, hc', _⟩ := pT
      obtain ⟨o2, ho2, hc2, _⟩ := hit
      rw [ho] at ho2
      cases ho2
      rw [hc'] at hc2
      exact absurd hc2 (by decide)
    have hlt : i < its.toArray.size := by
      have h1 := (List.getElem?_eq_some_iff.mp hu).1
      rw [List.size_toArray]
      exact h1
    refine wpAny_pyNext_enum_itemD (Draws.tuple (show X.A.in1.handled = none from I.ok.hd hc) it a nia its.toArray) he ⟨hit, pT⟩ hlt hne (by simp [hne, nea]) fun y h' tk hy ho st' hT hsz hk => ?_
    have hy' : its[i]? = some y := by simpa using hy
    rw [hu] at hy'
    cases hy'
    refine ⟨_, rfl, wpAny_letOwnedTupleGo_enum (s := { s with heap := h', toks := tk + 1 }) ho fun h'' he' sb => ?_⟩
    have hT2 : h''.get? s.heap.objs.size = some { cls := .type "tuple", data := .seq #[.int i tk, u] } := (sb.2 _ (Nat.ne_of_gt hel)).trans hT
    have new : ObjOk X.prog X.w (upd H s.heap.objs.size (.tup [.int (i : Nat), x])) h'' s.heap.objs.size (.tup [.int (i : Nat), x]) :=
      ⟨by show 2 ≤ sizeLine; decide, [.int i tk, u], .cons ⟨_, rfl⟩ (.cons ru .nil), ⟨_, hT2, rfl, _, rfl⟩⟩
    have I1 : Inv X pins σ (upd H s.heap.objs.size (.tup [.int (i : Nat), x])) { s with heap := h'', toks := tk + 1 } :=
      I.turnedNew (ch := [e, it]) (fun b ob hb q => (sb.2 b (fun z => hb (by simp [z]))).trans (hk b ob (fun z => hb (by simp [z])) (fun z => hb (by simp [z])) q)) hf (Nat.le_refl _) new
    refine ⟨.ref s.heap.objs.size, _, I1, rfl, ⟨_, x, rfl, I.hok.fresh (Nat.le_refl _), rfl, fun ys hy => by rw [I.tuple_inj hy hq]; exact hx⟩, ⟨⟨u, ?_⟩, st'.1.at fun o q => (sb.2 it (Ne.symm hne)).trans q, hne⟩, fun b hb => ?_⟩
    · have e1 : ((i + 1 : Nat) : Int) = (i : Int) + 1 := by omega
      rw [e1]; exact he'
    · have hb' : b < s.heap.objs.size := by
        have e' : b = e ∨ b = it := by simpa using hb
        rcases e' with z | z
        · rw [z]; exact hel
        · rw [z]; exact hil
      rw [upd_ne (Nat.ne_of_lt hb')]
      exact (hf b hb).1
  done := by
    intro X hP hw hK hc i pins s σ H E I hf st hg
    subst hP hw hK
    obtain ⟨⟨old, he⟩, hit, hne⟩ := st
    obtain ⟨xs, hq, hx⟩ := hg
    obtain ⟨its, rv, p, hz⟩ := I.tuple hq
    obtain ⟨f0, f1, f2, f3, f4, f5⟩ := hf it (by simp)
    have hl := rv.length
    have pT : s.heap.IsTuple a its.toArray := p
    have nia : a ≠ it := by
      rintro rfl
      obtain ⟨o, ho, hc', _⟩ := pT
      obtain ⟨o2, ho2, hc2, _⟩ := hit
      rw [ho] at ho2
      cases ho2
      rw [hc'] at hc2
      exact absurd hc2 (by decide)
    have ei : i = its.toArray.size := by rw [List.size_toArray]; omega
    refine wpAny_pyNext_enum_endD (Draws.tuple (show X.A.in1.handled = none from I.ok.hd hc) it a nia its.toArray) he (by rw [← ei]; exact ⟨hit, pT⟩) fun h' eb => ⟨rfl, I.turned (t' := s.toks) (fun b o hb q => eb b o hb q) f0 f1 f3 f4 f5⟩
  self := fun A i s Q E st h => let ⟨⟨_, he⟩, _⟩ := st; wpAny_pyIter_enum he h

/-! ### what is walked: a list or a tuple -/
def iSeqU (K : PySem.W.Frag) (tl : TE) : TI := fun σ H R => tl σ H fun x H1 => ∃ a, x = .ref a ∧ (((∃ xs, SqL K H1 a xs) ∧ R (Itl K a) H1) ∨ ((∃ xs, SqT K H1 a xs) ∧ R (Itt K a) H1))
def iEnumU (K : PySem.W.Frag) (ta : TA) : TI := fun σ H R => ta σ H fun vs H1 => ∃ a, vs = [.ref a] ∧ (((∃ xs, SqL K H1 a xs) ∧ R (Ite K a) H1) ∨ ((∃ xs, SqT K H1 a xs) ∧ R (IteT K a) H1))
section
variable {X : Cx} {tg : Expr}
theorem pi_seqU {l : Expr} {tl : TE} (hl : PE X l tl) : PI X tg l (iSeqU X.K tl) := by
  refine ⟨fun pins s σ H R I h => ?_⟩
  refine thn (hl.run pins s σ H _ I h) fun v s1 ⟨x, H1, I1, r1, q1⟩ => ?_
  obtain ⟨a, e, q1⟩ := q1
  subst e
  cases r1
  rcases q1 with ⟨⟨xs, hq⟩, q⟩ | ⟨⟨xs, hq⟩, q⟩
  · obtain ⟨its, rv, p, hz⟩ := I1.list hq
    refine wpAny_pyIter_list p.isList ?_
    refine ⟨s1.heap.objs.size, [s1.heap.objs.size], _, _, H1, rfl, I1.kept (t' := s1.toks) fun b o e => Heap.get?_push_of_some _ e, turn_list a _, ⟨_, Heap.get?_push_size _ rfl, rfl, rfl⟩, fun b hb => ?_, q⟩
    have e : b = s1.heap.objs.size := by simpa using hb
    subst e
    exact I1.fpOk (Nat.le_refl _) (I1.hok.fresh (Nat.le_refl _))
  · obtain ⟨its, rv, p, hz⟩ := I1.tuple hq
    refine wpAny_pyIter_tuple (show s1.heap.IsTuple a its.toArray from p) ?_
    refine ⟨s1.heap.objs.size, [s1.heap.objs.size], _, _, H1, rfl, I1.kept (t' := s1.toks) fun b o e => Heap.get?_push_of_some _ e, turn_tuple a _, ⟨_, Heap.get?_push_size _ rfl, rfl, rfl⟩, fun b hb => ?_, q⟩
    have e : b = s1.heap.objs.size := by simpa using hb
    subst e
    exact I1.fpOk (Nat.le_refl _) (I1.hok.fresh (Nat.le_refl _))
theorem pi_enumU {e : Expr} {ta : TA} {p pos tpos : Pos} {elts : List Expr} {kk : Nat} (hg : Gl X "enumerate") (hm : X.mg "enumerate" = none) (ha : PA X [e] ta) (hs : starEach [e] X.env = [(false, eval e X.env)] := by rfl) :
    PI X (.Tuple elts kk tpos) (.Call (.Name "enumerate" p) [e] [] pos) (iEnumU X.K ta) := by
  refine ⟨fun pins s σ H R I h => ?_⟩
  refine Call_ (ld_blt I hg hm boot_enumerate (PyProof.Rows.callWith_type1 (thn (ha.run pos pins s σ H _ I h) fun us s1 ⟨vs, H1, I1, r1, q1⟩ => ?_) hs rfl))
  obtain ⟨a, ex, q1⟩ := q1
  subst ex
  cases r1 with
  | cons r rr =>
    cases rr
    cases r
    have fp : ∀ b ∈ [s1.heap.objs.size + 1, s1.heap.objs.size], FpOk X pins H1 b := fun b hb => by
      have e' : b = s1.heap.objs.size + 1 ∨ b = s1.heap.objs.size := by simpa using hb
      have hle : s1.heap.objs.size ≤ b := by
        rcases e' with z | z
        · rw [z]; exact Nat.le_add_right _ _
        · rw [z]; exact Nat.le_refl _
      exact I1.fpOk hle (I1.hok.fresh hle)
    rcases q1 with ⟨⟨xs, hq⟩, q⟩ | ⟨⟨xs, hq⟩, q⟩
    · obtain ⟨its, rv, p', hz⟩ := I1.list hq
      refine call_enumerate_list p'.isList fun h' he hit hsz hk => wpAny_pyIter_enum he ?_
      have I2 : Inv X pins σ H1 { s1 with heap := h' } := I1.kept (t' := s1.toks) hk
      exact ⟨s1.heap.objs.size + 1, [s1.heap.objs.size + 1, s1.heap.objs.size], _, _, H1, rfl, I2, turn_enum a (s1.heap.objs.size + 1) s1.heap.objs.size, ⟨⟨.none, he⟩, hit, Nat.succ_ne_self _⟩, fp, q⟩
    · obtain ⟨its, rv, p', hz⟩ := I1.tuple hq
      refine call_enumerate_tuple (show s1.heap.IsTuple a its.toArray from p') fun h' he hit hsz hk => wpAny_pyIter_enum he ?_
      have I2 : Inv X pins σ H1 { s1 with heap := h' } := I1.kept (t' := s1.toks) hk
      exact ⟨s1.heap.objs.size + 1, [s1.heap.objs.size + 1, s1.heap.objs.size], _, _, H1, rfl, I2, turn_enumT a (s1.heap.objs.size + 1) s1.heap.objs.size, ⟨⟨.none, he⟩, hit, Nat.succ_ne_self _⟩, fp, q⟩
end

/-! ### walks over data -/
/-- while the loop runs the list stands: it stands still, or is a cell with these items -/
def Stand (d : D) (ds : List D) : Mem → Prop := fun M => IsS M d ds
def pairs (ds : List D) : List D := (List.range ds.length).map fun i => .sq false [.int (i : Nat), ds.getD i .non]
theorem pairs_get {ds : List D} {i : Nat} {d : D} (h : (pairs ds)[i]? = some d) : ∃ e, ds[i]? = some e ∧ d = .sq false [.int (i : Nat), e] := by
  unfold pairs at h
  rw [List.getElem?_map] at h
  cases q : (List.range ds.length)[i]? with
  | none => rw [q] at h; cases h
  | some j =>
    rw [q] at h
    obtain ⟨hi, e⟩ := List.getElem?_eq_some_iff.mp q
    rw [List.getElem_range] at e
    subst e
    rw [List.length_range] at hi
    cases h
    exact ⟨ds[i], List.getElem?_eq_getElem hi, by show D.sq false [.int (i : Nat), ds.getD i .non] = _; rw [List.getD_eq_getElem?_getD, List.getElem?_eq_getElem hi]; rfl⟩
section
variable {z : Cz} {Γ : Gam} {M : Mem} {te : TE} {R : List D → (Mem → Prop) → Mem → Prop}
theorem sq_get {B F : Hp} {M : Mem} {H : Hp} {d : D} {ds : List D} {a : Addr} (l : IsS M d ds) (r : Rp z B d (.ref a)) (s : Hs z B F M H) : ∃ vs, (SqL z.K H a vs ∨ SqT z.K H a vs) ∧ Rps z B ds vs := by
  obtain ⟨p, vs, e, h, t⟩ := l.at_ r s
  cases e
  exact ⟨vs, h, t⟩
/-- what a list or tuple is does not change -/
theorem hoOf_inj {k k' : Bool} {vs ws : List V} (h : hoOf k vs = hoOf k' ws) : k = k' := by
  cases k <;> cases k' <;> first | rfl | (cases h)
/-- is it a list: as data tells -/
def lstD : D → Bool
  | .sq k _ => k
  | _ => true
theorem IsS.at2 {B F : Hp} {M : Mem} {H : Hp} {d : D} {ds : List D} {v : V} (l : IsS M d ds) (r : Rp z B d v) (s : Hs z B F M H) : ∃ p vs, v = .ref p ∧ Rps z B ds vs ∧ (lstD d = true → SqL z.K H p vs) ∧ (lstD d = false → SqT z.K H p vs) := by
  rcases l with ⟨k, e⟩ | ⟨p, e, hp⟩ | ⟨ns, e, e2⟩
  · subst e
    obtain ⟨p, vs, e1, e2, _, e3⟩ := r.sq_inv
    have hH := s.b _ _ e2
    cases k with
    | true => exact ⟨p, vs, e1, e3, fun _ => .inl (.inl hH), (fun q => Bool.noConfusion (show true = false from q))⟩
    | false => exact ⟨p, vs, e1, e3, (fun q => Bool.noConfusion (show false = true from q)), fun _ => .inl (.inl hH)⟩
  · obtain ⟨p', vs, e1, e2, e3⟩ := IsL.at_ (.inr ⟨p, e, hp⟩) r s
    subst e
    exact ⟨p', vs, e1, e3, fun _ => .inl (.inl e2), (fun q => Bool.noConfusion (show true = false from q))⟩
  · subst e e2
    cases r with
    | scr h => exact ⟨_, _, rfl, Rps.of_map (fun i => .int i) ns, fun _ => ex_l s.b h, (fun q => Bool.noConfusion (show true = false from q))⟩
theorem walk_seq {B F0 : Hp} {d : D} {ds : List D} {a : Addr} (r : Rp z B d (.ref a)) (k : lstD d = true) : WalkD z (Itl z.K a) B F0 (Stand d ds) ds where
  goes := fun i B' F M H hi s e _ g => by
    obtain ⟨p, vs, ev, t, h, _⟩ := IsS.at2 g (r.mono e) s
    cases ev
    exact ⟨vs, vs[i]'(by rw [t.length]; exact hi), h k, List.getElem?_eq_getElem _⟩
  stops := fun B' F M H s e _ g => by
    obtain ⟨p, vs, ev, t, h, _⟩ := IsS.at2 g (r.mono e) s
    cases ev
    exact ⟨vs, h k, by rw [t.length]; exact Nat.le_refl _⟩
  yields := fun i B' F M H x H' dx hd s e _ g y => by
    obtain ⟨p, vs, ev, t, h, _⟩ := IsS.at2 g (r.mono e) s
    cases ev
    obtain ⟨eH, y⟩ := y
    obtain ⟨v, hv, rv⟩ := t.get hd
    have hx := y vs (h k)
    rw [hv] at hx
    cases hx
    exact ⟨B', Ex.refl, by rw [eH]; exact s, rv⟩
theorem walk_seqT {B F0 : Hp} {d : D} {ds : List D} {a : Addr} (r : Rp z B d (.ref a)) (k : lstD d = false) : WalkD z (Itt z.K a) B F0 (Stand d ds) ds where
  goes := fun i B' F M H hi s e _ g => by
    obtain ⟨p, vs, ev, t, _, h⟩ := IsS.at2 g (r.mono e) s
    cases ev
    exact ⟨vs, vs[i]'(by rw [t.length]; exact hi), h k, List.getElem?_eq_getElem _⟩
  stops := fun B' F M H s e _ g => by
    obtain ⟨p, vs, ev, t, _, h⟩ := IsS.at2 g (r.mono e) s
    cases ev
    exact ⟨vs, h k, by rw [t.length]; exact Nat.le_refl _⟩
  yields := fun i B' F M H x H' dx hd s e _ g y => by
    obtain ⟨p, vs, ev, t, _, h⟩ := IsS.at2 g (r.mono e) s
    cases ev
    obtain ⟨eH, y⟩ := y
    obtain ⟨v, hv, rv⟩ := t.get hd
    have hx := y vs (h k)
    rw [hv] at hx
    cases hx
    exact ⟨B', Ex.refl, by rw [eH]; exact s, rv⟩
theorem ei_seq (h : EV z te Γ M fun d M1 => ∃ ds, IsS M1 d ds ∧ R ds (Stand d ds) M1) : EI z (iSeqU z.K te) Γ M R :=
  fun B F σ H sl hs RR q => h B F σ H sl hs _ fun d M1 ⟨ds, l, k⟩ v B1 H1 e1 r1 s1 => by
    obtain ⟨p, vs, ev, t, h1, h2⟩ := IsS.at2 l r1 s1
    subst ev
    refine ⟨p, rfl, ?_⟩
    cases q2 : lstD d with
    | true => exact .inl ⟨⟨vs, h1 q2⟩, q ds _ M1 k _ B1 H1 e1 s1 (walk_seq r1 q2)⟩
    | false => exact .inr ⟨⟨vs, h2 q2⟩, q ds _ M1 k _ B1 H1 e1 s1 (walk_seqT r1 q2)⟩
theorem walk_en {B F0 : Hp} {d : D} {ds : List D} {a : Addr} (r : Rp z B d (.ref a)) (k : lstD d = true) : WalkD z (Ite z.K a) B F0 (Stand d ds) (pairs ds) where
  goes := fun i B' F M H hi s e _ g => by
    obtain ⟨p, vs, ev, t, h, _⟩ := IsS.at2 g (r.mono e) s
    cases ev
    have hi' : i < vs.length := by rw [t.length]; simpa [pairs] using hi
    exact ⟨vs, vs[i], h k, List.getElem?_eq_getElem _⟩
  stops := fun B' F M H s e _ g => by
    obtain ⟨p, vs, ev, t, h, _⟩ := IsS.at2 g (r.mono e) s
    cases ev
    exact ⟨vs, h k, by rw [t.length]; simp [pairs]⟩
  yields := fun i B' F M H x H' dx hd s e _ g y => by
    obtain ⟨p, vs, ev, t, h, _⟩ := IsS.at2 g (r.mono e) s
    cases ev
    obtain ⟨T, u, ex, hT, eH, y⟩ := y
    obtain ⟨w, hw, ew⟩ := pairs_get hd
    obtain ⟨v, hv, rv⟩ := t.get hw
    have hx := y vs (h k)
    rw [hv] at hx
    cases hx
    subst ex eH ew
    have e2 : Ex B' (upd B' T (.tup [.int (i : Nat), u])) := Ex.new (s.fresh hT).1
    exact ⟨_, e2, s.newB hT (fun ps q => by cases q), .sq (k := false) upd_same (by show 2 ≤ sizeLine; decide) (.cons (.int _) (.cons (rv.mono e2) .nil))⟩
theorem walk_enT {B F0 : Hp} {d : D} {ds : List D} {a : Addr} (r : Rp z B d (.ref a)) (k : lstD d = false) : WalkD z (IteT z.K a) B F0 (Stand d ds) (pairs ds) where
  goes := fun i B' F M H hi s e _ g => by
    obtain ⟨p, vs, ev, t, _, h⟩ := IsS.at2 g (r.mono e) s
    cases ev
    have hi' : i < vs.length := by rw [t.length]; simpa [pairs] using hi
    exact ⟨vs, vs[i], h k, List.getElem?_eq_getElem _⟩
  stops := fun B' F M H s e _ g => by
    obtain ⟨p, vs, ev, t, _, h⟩ := IsS.at2 g (r.mono e) s
    cases ev
    exact ⟨vs, h k, by rw [t.length]; simp [pairs]⟩
  yields := fun i B' F M H x H' dx hd s e _ g y => by
    obtain ⟨p, vs, ev, t, _, h⟩ := IsS.at2 g (r.mono e) s
    cases ev
    obtain ⟨T, u, ex, hT, eH, y⟩ := y
    obtain ⟨w, hw, ew⟩ := pairs_get hd
    obtain ⟨v, hv, rv⟩ := t.get hw
    have hx := y vs (h k)
    rw [hv] at hx
    cases hx
    subst ex eH ew
    have e2 : Ex B' (upd B' T (.tup [.int (i : Nat), u])) := Ex.new (s.fresh hT).1
    exact ⟨_, e2, s.newB hT (fun ps q => by cases q), .sq (k := false) upd_same (by show 2 ≤ sizeLine; decide) (.cons (.int _) (.cons (rv.mono e2) .nil))⟩
theorem ei_enum {ta : TA} (h : EA z ta Γ M fun es M1 => ∃ d ds, es = [d] ∧ IsS M1 d ds ∧ R (pairs ds) (Stand d ds) M1) : EI z (iEnumU z.K ta) Γ M R :=
  fun B F σ H sl hs RR q => h B F σ H sl hs _ fun es M1 ⟨d, ds, e, l, k⟩ us B1 H1 e1 r1 s1 => by
    subst e
    cases r1 with
    | cons r1 rr =>
      cases rr
      obtain ⟨p, vs, ev, t, h1, h2⟩ := IsS.at2 l r1 s1
      subst ev
      refine ⟨p, rfl, ?_⟩
      cases q2 : lstD d with
      | true => exact .inl ⟨⟨vs, h1 q2⟩, q _ _ M1 k _ B1 H1 e1 s1 (walk_en r1 q2)⟩
      | false => exact .inr ⟨⟨vs, h2 q2⟩, q _ _ M1 k _ B1 H1 e1 s1 (walk_enT r1 q2)⟩
def rgD (lo : Int) (n : Nat) : List D := (List.range n).map fun i => .int (lo + (i : Nat))
theorem walk_rg {B F0 : Hp} {lo : Int} {n : Nat} : WalkD z (Itr lo n) B F0 (fun _ => True) (rgD lo n) where
  goes := fun i B' F M H hi s e _ g => by
    have hi' : i < n := by simpa [rgD] using hi
    exact hi'
  stops := fun B' F M H s e _ g => by
    show n ≤ (rgD lo n).length
    simp [rgD]
  yields := fun i B' F M H x H' dx hd s e _ g y => by
    obtain ⟨eH, y⟩ := y
    subst eH y
    unfold rgD at hd
    rw [List.getElem?_map] at hd
    cases q : (List.range n)[i]? with
    | none => rw [q] at hd; cases hd
    | some j =>
      rw [q] at hd
      obtain ⟨hi, e⟩ := List.getElem?_eq_some_iff.mp q
      rw [List.getElem_range] at e
      subst e
      cases hd
      exact ⟨B', Ex.refl, s, .int _⟩
theorem ei_rng {ta : TA} (h : EA z ta Γ M fun es M1 => ∃ n : Int, es = [.int n] ∧ -(2 ^ 62) ≤ n ∧ n < 2 ^ 62 ∧ R (rgD 0 n.toNat) (fun _ => True) M1) : EI z (iRng1 ta) Γ M R :=
  fun B F σ H sl hs RR q => h B F σ H sl hs _ fun es M1 ⟨n, e, h1, h2, k⟩ us B1 H1 e1 r1 s1 => by
    subst e
    cases r1 with
    | cons r1 rr =>
      cases rr
      have ev := r1.int_inv
      subst ev
      exact ⟨n, rfl, h1, h2, q _ _ M1 k _ B1 H1 e1 s1 walk_rg⟩
def signs (x : Str) : List D := x.cps.toList.map fun c => .str ⟨#[c]⟩
theorem walk_sg {B F0 : Hp} {x : Str} : WalkD z (Its x) B F0 (fun _ => True) (signs x) where
  goes := fun i B' F M H hi s e _ g => by
    have hi' : i < x.cps.size := by simpa [signs] using hi
    exact hi'
  stops := fun B' F M H s e _ g => by
    show x.cps.size ≤ (signs x).length
    simp [signs]
  yields := fun i B' F M H v H' dx hd s e _ g y => by
    obtain ⟨eH, c, hc, ev⟩ := y
    subst eH ev
    unfold signs at hd
    rw [List.getElem?_map, Array.getElem?_toList, hc] at hd
    cases hd
    exact ⟨B', Ex.refl, s, .str _⟩
theorem ei_str (h : EV z te Γ M fun d M1 => ∃ x, d = .str x ∧ R (signs x) (fun _ => True) M1) : EI z (iStr te) Γ M R :=
  fun B F σ H sl hs RR q => h B F σ H sl hs _ fun d M1 ⟨x, e, k⟩ v B1 H1 e1 r1 s1 => by
    subst e
    exact ⟨x, r1.str_inv, q _ _ M1 k _ B1 H1 e1 s1 walk_sg⟩
end
end Lv

set_option Elab.async false
set_option linter.all false
set_option maxRecDepth 100000
set_option maxHeartbeats 4000000
/-! Lay5: built-ins and methods over data; comprehensions; statements; calls. -/
namespace Lv
open PySem PySem.Spec PyProof.Rows L2 StX

section
variable {z : Cz} {B F : Hp} {M : Mem} {H : Hp}
theorem Rps.one {d : D} {vs : List V} (r : Rps z B [d] vs) : ∃ v, vs = [v] ∧ Rp z B d v := by
  cases r with
  | cons a b => cases b; exact ⟨_, rfl, a⟩
theorem Rps.two {d e : D} {vs : List V} (r : Rps z B [d, e] vs) : ∃ v w, vs = [v, w] ∧ Rp z B d v ∧ Rp z B e w := by
  cases r with
  | cons a b =>
    cases b with
    | cons c d => cases d; exact ⟨_, _, rfl, a, c⟩
theorem IsS.lens {d : D} {ds : List D} {v : V} (l : IsS M d ds) (r : Rp z B d v) (s : Hs z B F M H) : ds.length ≤ sizeLine ∨ True := .inr trivial
end

/-! ### built-ins -/
def rLenU (K : PySem.W.Frag) : List V → Hp → VK → Prop := fun xs H Q => (∃ p ys, xs = [.ref p] ∧ (SqL K H p ys ∨ SqT K H p ys) ∧ Q (.int ys.length) H) ∨ ∃ w, xs = [.str w] ∧ w.length ≤ sizeLine ∧ Q (.int w.length) H
theorem cx_len {X : Cx} : CallR X (.builtin "len") (rLenU X.K) := CallR.or call_len_seq call_len_str
instance {z : Cz} : CbD z (rLenU z.K) (fun es M P => (∃ d ds, es = [d] ∧ IsS M d ds ∧ P (.int ds.length) M) ∨ ∃ w, es = [.str w] ∧ w.length ≤ sizeLine ∧ P (.int w.length) M) := ⟨fun {B F M H vs ds Q P} r s f q => by
  rcases f with ⟨d, es, e, l, k⟩ | ⟨w, e, hl, k⟩
  · subst e
    obtain ⟨v, ev, r1⟩ := r.one
    subst ev
    obtain ⟨p, ws, ew, hp, t⟩ := l.at_ r1 s
    subst ew
    refine .inl ⟨p, ws, rfl, hp, ?_⟩
    rw [t.length]
    exact q _ M k _ B H Ex.refl (.int _) s
  · subst e
    obtain ⟨v, ev, r1⟩ := r.one
    subst ev
    exact .inr ⟨w, by rw [r1.str_inv], hl, q _ M k _ B H Ex.refl (.int _) s⟩⟩
def rMaxU (K : PySem.W.Frag) : List V → Hp → VK → Prop := fun xs H Q => (∃ i j, xs = [.int i, .int j] ∧ Q (.int (if j > i then j else i)) H) ∨ rMax K xs H Q
theorem cx_max {X : Cx} (hc : X.calm = true) : CallR X (.builtin "max") (rMaxU X.K) := CallR.or (call_max2 hc) (cr_max hc)
instance {z : Cz} : CbD z (rMaxU z.K) (fun es M P => (∃ i j, es = [.int i, .int j] ∧ P (.int (if j > i then j else i)) M) ∨ ∃ (d : D) (ns : List Int), es = [d] ∧ IsL M d (ns.map D.int) ∧ 0 < ns.length ∧ ∀ m, m ∈ ns → (∀ y, y ∈ ns → y ≤ m) → P (.int m) M) := ⟨fun {B F M H vs ds Q P} r s f q => by
  rcases f with ⟨i, j, e, k⟩ | ⟨d, ns, e, l, h0, k⟩
  · subst e
    obtain ⟨v, w, ev, r1, r2⟩ := r.two
    subst ev
    rw [r1.int_inv, r2.int_inv]
    exact .inl ⟨i, j, rfl, q _ M k _ B H Ex.refl (.int _) s⟩
  · subst e
    obtain ⟨v, ev, r1⟩ := r.one
    subst ev
    obtain ⟨p, ws, ew, hp, t⟩ := l.at_ r1 s
    rw [ew]
    have et := t.ints
    subst et
    exact .inr ⟨p, ns, rfl, .inl (.inl hp), h0, fun m h1 h2 => q _ M (k m h1 h2) _ B H Ex.refl (.int _) s⟩⟩
def rMinU : List V → Hp → VK → Prop := fun xs H Q => ∃ i j, xs = [.int i, .int j] ∧ Q (.int (if j < i then j else i)) H
theorem cx_min {X : Cx} (hc : X.calm = true) : CallR X (.builtin "min") rMinU := call_min2 hc
instance {z : Cz} : CbD z rMinU (fun es M P => ∃ i j, es = [.int i, .int j] ∧ P (.int (if j < i then j else i)) M) := ⟨fun {B F M H vs ds Q P} r s f q => by
  obtain ⟨i, j, e, k⟩ := f
  subst e
  obtain ⟨v, w, ev, r1, r2⟩ := r.two
  subst ev
  rw [r1.int_inv, r2.int_inv]
  exact ⟨i, j, rfl, q _ M k _ B H Ex.refl (.int _) s⟩⟩
def rIntU : List V → Hp → VK → Prop := fun xs H Q => (∃ i, xs = [.int i] ∧ Q (.int i) H) ∨ ∃ k, xs = [.bl k] ∧ Q (.int (if k then 1 else 0)) H
theorem cx_int {X : Cx} : CallR X (.type "int") rIntU := call_int1
instance {z : Cz} : CbD z rIntU (fun es M P => (∃ i, es = [.int i] ∧ P (.int i) M) ∨ ∃ k, es = [.bl k] ∧ P (.int (if k then 1 else 0)) M) := ⟨fun {B F M H vs ds Q P} r s f q => by
  rcases f with ⟨i, e, k⟩ | ⟨b, e, k⟩
  · subst e
    obtain ⟨v, ev, r1⟩ := r.one
    subst ev
    exact .inl ⟨i, by rw [r1.int_inv], q _ M k _ B H Ex.refl (.int _) s⟩
  · subst e
    obtain ⟨v, ev, r1⟩ := r.one
    subst ev
    exact .inr ⟨b, by rw [r1.bl_inv], q _ M k _ B H Ex.refl (.int _) s⟩⟩
def rSumU (K : PySem.W.Frag) : List V → Hp → VK → Prop := rSum K
theorem cx_sum {X : Cx} (hc : X.calm = true) : CallR X (.builtin "sum") (rSumU X.K) := cr_sum hc
instance {z : Cz} : CbD z (rSumU z.K) (fun es M P => ∃ (d : D) (ns : List Int), es = [d] ∧ IsL M d (ns.map D.int) ∧ P (.int ns.sum) M) := ⟨fun {B F M H vs ds Q P} r s f q => by
  obtain ⟨d, ns, e, l, k⟩ := f
  subst e
  obtain ⟨v, ev, r1⟩ := r.one
  subst ev
  obtain ⟨p, ws, ew, hp, t⟩ := l.at_ r1 s
  rw [ew]
  have et := t.ints
  subst et
  exact ⟨p, ns, rfl, .inl (.inl hp), q _ M k _ B H Ex.refl (.int _) s⟩⟩
def rAllU (K : PySem.W.Frag) : List V → Hp → VK → Prop := rAll K
theorem cx_all {X : Cx} (hc : X.calm = true) : CallR X (.builtin "all") (rAllU X.K) := cr_all hc
instance {z : Cz} : CbD z (rAllU z.K) (fun es M P => ∃ (d : D) (bs : List Bool), es = [d] ∧ IsL M d (bs.map D.bl) ∧ P (.bl (bs.all id)) M) := ⟨fun {B F M H vs ds Q P} r s f q => by
  obtain ⟨d, ns, e, l, k⟩ := f
  subst e
  obtain ⟨v, ev, r1⟩ := r.one
  subst ev
  obtain ⟨p, ws, ew, hp, t⟩ := l.at_ r1 s
  rw [ew]
  have et := t.bls
  subst et
  exact ⟨p, ns, rfl, .inl (.inl hp), q _ M k _ B H Ex.refl (.bl _) s⟩⟩
def rSrtU (K : PySem.W.Frag) : List V → Hp → VK → Prop := rSortedI K
theorem cx_sorted {X : Cx} : CallR X (.builtin "sorted") (rSrtU X.K) := cr_sortedI
instance {z : Cz} : CbD z (rSrtU z.K) (fun es M P => ∃ (d : D) (ns : List Int), es = [d] ∧ IsL M d (ns.map D.int) ∧ ∀ ns' : List Int, ns'.Perm ns → ns'.Pairwise (· ≤ ·) → NewL (ns'.map D.int) M P) := ⟨fun {B F M H vs ds Q P} r s f q => by
  obtain ⟨d, ns, e, l, k⟩ := f
  subst e
  obtain ⟨v, ev, r1⟩ := r.one
  subst ev
  obtain ⟨p, ws, ew, hp, t⟩ := l.at_ r1 s
  rw [ew]
  have et := t.ints
  subst et
  exact ⟨p, ns, rfl, .inl (.inl hp), fun ns' a h1 h2 ha => (k ns' h1 h2).fin s (Rps.of_map (fun i => .int i) ns') q ha⟩⟩
/-- list(..) of a list, a tuple, a dict's keys, a text -/
def rLstS : List V → Hp → VK → Prop := fun xs H Q => ∃ w : Str, xs = [.str w] ∧ w.cps.size ≤ sizeLine ∧ ∀ q, H q = none → Q (.ref q) (upd H q (.lst (w.cps.toList.map fun c => V.str ⟨#[c]⟩)))
theorem signs_vals {w : Str} : ∀ {acc : Array Value}, ItemsOf (SignAt w) acc w.cps.size → Vals (w.cps.toList.map fun c => V.str ⟨#[c]⟩) acc.toList := fun {acc} h => by
  obtain ⟨h1, h2⟩ := h
  refine vals_of_at (by simp [h1]) fun j x u hx hu => ?_
  rw [List.getElem?_map] at hx
  rw [Array.getElem?_toList] at hu
  obtain ⟨c, t, hc, e⟩ := h2 j u hu
  rw [Array.getElem?_toList, hc] at hx
  cases hx
  exact ⟨t, e⟩
theorem call_list_s {X : Cx} (hc : X.calm = true) : CallR X (.type "list") rLstS := by
  intro pins s σ H xs us Q I r h
  obtain ⟨w, e, hl, q⟩ := h
  subst e
  obtain ⟨u, rfl, rx⟩ := vals1 r
  obtain ⟨t, rfl⟩ := rx
  refine call_list_str (I.ok.hd hc) w t (fun h' tk acc' c' hk hS hI => ?_) hl
  have rv := signs_vals hI
  refine ⟨.ref s.heap.objs.size, _, I.laid (t' := tk) hk (Nat.le_refl _) (show ObjOk X.prog X.w _ h' _ (.lst (w.cps.toList.map fun c => V.str ⟨#[c]⟩)) from ⟨by simpa using hl, acc'.toList, c', rv, by rw [Array.toArray_toList]; exact hS⟩), rfl, q _ (I.hok.fresh (Nat.le_refl _))⟩
def rLstU (K : PySem.W.Frag) : List V → Hp → VK → Prop := fun xs H Q => (∃ p ys, xs = [.ref p] ∧ (SqL K H p ys ∨ SqT K H p ys) ∧ ∀ l, H l = none → Q (.ref l) (upd H l (.lst ys))) ∨ rListD xs H Q ∨ rLstS xs H Q
theorem cx_list {X : Cx} (hc : X.calm = true) : CallR X (.type "list") (rLstU X.K) := CallR.or call_list_of (CallR.or (call_list_dK hc) (call_list_s hc))
def kD : Key → D
  | .inl i => .int i
  | .inr s => .str s
theorem Rpk.keys {z : Cz} {B : Hp} : ∀ {ds : List (Key × D)} {vs : List (Key × V)}, Rpk z B ds vs → Rps z B (ds.map fun e => kD e.1) (vs.map fun e => kV e.1)
  | _, _, .nil => .nil
  | _, _, .cons (f := f) r t => .cons (by cases f <;> constructor) (Rpk.keys t)
theorem cellK {z : Cz} {B F : Hp} {M : Mem} {H : Hp} {p : Addr} {kvs : List (Key × D)} (s : Hs z B F M H) (h : M p = some (.dK kvs)) : ∃ ws, H p = some (.dK ws) ∧ Rpk z B kvs ws := by
  obtain ⟨_, hm⟩ := s.m p _ h
  cases q : H p with
  | none => rw [q] at hm; cases hm
  | some u =>
    rw [q] at hm
    cases hm with
    | dK r => exact ⟨_, rfl, r⟩
instance {z : Cz} : CbD z (rLstU z.K) (fun es M P => (∃ d ds, es = [d] ∧ IsS M d ds ∧ NewL ds M P) ∨ (∃ p kvs, es = [.ref p] ∧ M p = some (.dK kvs) ∧ NewL (kvs.map fun e => kD e.1) M P) ∨ ∃ w : Str, es = [.str w] ∧ NewL (signs w) M P) := ⟨fun {B F M H vs ds Q P} r s f q => by
  rcases f with ⟨d, es, e, l, k⟩ | ⟨p, kvs, e, hp, k⟩ | ⟨w, e, k⟩
  · subst e
    obtain ⟨v, ev, r1⟩ := r.one
    subst ev
    obtain ⟨p, ws, ew, hp, t⟩ := l.at_ r1 s
    subst ew
    exact .inl ⟨p, ws, rfl, hp, fun a ha => k.fin s t q ha⟩
  · subst e
    obtain ⟨v, ev, r1⟩ := r.one
    subst ev
    obtain ⟨ws, hw, t⟩ := cellK s hp
    rw [r1.ref_inv]
    exact .inr (.inl ⟨p, ws, rfl, hw, fun a ha => k.fin s t.keys q ha⟩)
  · subst e
    obtain ⟨v, ev, r1⟩ := r.one
    subst ev
    rw [r1.str_inv]
    have hl := k.1
    exact .inr (.inr ⟨w, rfl, by simpa [signs] using hl, fun a ha => k.fin s (Rps.of_map (fun c => .str _) _) q ha⟩)⟩
def rTupU (K : PySem.W.Frag) : List V → Hp → VK → Prop := fun xs H Q => ∃ p ys, xs = [.ref p] ∧ ((SqL K H p ys ∧ ∀ l, H l = none → Q (.ref l) (upd H l (.tup ys))) ∨ (SqT K H p ys ∧ Q (.ref p) H))
theorem cx_tuple {X : Cx} : CallR X (.type "tuple") (rTupU X.K) := call_tuple_of
instance {z : Cz} : CbD z (rTupU z.K) (fun es M P => ∃ d ds, es = [d] ∧ IsL M d ds ∧ NewT ds M P) := ⟨fun {B F M H vs ds Q P} r s f q => by
  obtain ⟨d, es, e, l, k⟩ := f
  subst e
  obtain ⟨v, ev, r1⟩ := r.one
  subst ev
  obtain ⟨p, ws, ew, hp, t⟩ := l.at_ r1 s
  subst ew
  exact ⟨p, ws, rfl, .inl ⟨.inl (.inl hp), fun a ha => k.fin s t q ha⟩⟩⟩
/-! ### methods of lists -/
theorem lst_ty {z : Cz} {B F : Hp} {M : Mem} {H : Hp} {v : V} {d : D} (r : Rp z B d v) (s : Hs z B F M H) (h : ∃ ds, (∃ p, d = .ref p ∧ M p = some (.lst ds)) ∨ d = .sq true ds) : tyV z.K "list" v H := by
  obtain ⟨ds, h⟩ := h
  obtain ⟨p, vs, ev, hp, _⟩ := IsL.at_ (M := M) (ds := ds) (h.elim .inr .inl) r s
  subst ev
  exact .inl ⟨rfl, vs, .inl (.inl hp)⟩
def cellL (d : D) (M : Mem) (k : Addr → List D → Prop) : Prop := ∃ p ds, d = .ref p ∧ M p = some (.lst ds) ∧ k p ds
def rAppU : V → List V → Hp → VK → Prop := rAppend
instance {z : Cz} : MtD z "list" rAppU (fun d es M P => cellL d M fun p ds => ∃ e, es = [e] ∧ ds.length < sizeLine ∧ P .non (mupd M p (.lst (ds ++ [e])))) := ⟨lst_ty, fun {B F M H v d vs ds Q P} r rs s f q => by
  obtain ⟨p, es, e1, hp, e, e2, hl, k⟩ := f
  subst e1 e2
  obtain ⟨w, ew, rw_⟩ := rs.one
  subst ew
  obtain ⟨p', ws, ev, hw, t⟩ := IsL.at_ (.inr ⟨p, rfl, hp⟩) r s
  have := r.ref_inv
  rw [ev] at this
  cases this
  exact ⟨p, ws, w, ev, rfl, hw, by rw [t.length]; exact hl, q _ _ k _ B _ Ex.refl .non (s.setM hp (.lst (t.append (.cons rw_ .nil))))⟩⟩
def rExtU : V → List V → Hp → VK → Prop := rExtend
instance {z : Cz} : MtD z "list" rExtU (fun d es M P => cellL d M fun p ds => ∃ e ys, es = [e] ∧ IsL M e ys ∧ ds.length + ys.length ≤ sizeLine ∧ P .non (mupd M p (.lst (ds ++ ys)))) := ⟨lst_ty, fun {B F M H v d vs ds Q P} r rs s f q => by
  obtain ⟨p, es, e1, hp, e, ys, e2, l, hl, k⟩ := f
  subst e1 e2
  obtain ⟨w, ew, rw_⟩ := rs.one
  subst ew
  obtain ⟨p', ws, ev, hw, t⟩ := IsL.at_ (.inr ⟨p, rfl, hp⟩) r s
  have := r.ref_inv
  rw [ev] at this
  cases this
  obtain ⟨b, us, eb, hb, tb⟩ := l.at_ rw_ s
  subst eb
  exact ⟨p, b, ws, us, ev, rfl, hw, hb, by rw [t.length, tb.length]; exact hl, q _ _ k _ B _ Ex.refl .non (s.setM hp (.lst (t.append tb)))⟩⟩
/-- pop(0) -/
def rPopU : V → List V → Hp → VK → Prop := rPopAt
instance {z : Cz} : MtD z "list" rPopU (fun d es M P => cellL d M fun p ds => ∃ e rest, es = [.int 0] ∧ ds = e :: rest ∧ P e (mupd M p (.lst rest))) := ⟨lst_ty, fun {B F M H v d vs ds Q P} r rs s f q => by
  obtain ⟨p, es, e1, hp, e, rest, e2, e3, k⟩ := f
  subst e1 e2 e3
  obtain ⟨w, ew, rw_⟩ := rs.one
  subst ew
  obtain ⟨p', ws, ev, hw, t⟩ := IsL.at_ (.inr ⟨p, rfl, hp⟩) r s
  have := r.ref_inv
  rw [ev] at this
  cases this
  cases t with
  | cons t1 t2 =>
    refine ⟨p, _, 0, 0, _, ev, by rw [rw_.int_inv], hw, by decide, by decide, ?_, rfl, q _ _ k _ B _ Ex.refl t1 (s.setM hp (.lst t2))⟩
    unfold seqIndex?
    simp⟩
def rIdxU (K : PySem.W.Frag) : V → List V → Hp → VK → Prop := rIndex K
instance {z : Cz} : MtD z "list" (rIdxU z.K) (fun d es M P => ∃ ds e j e', IsL M d ds ∧ es = [e] ∧ flatD e = true ∧ ds.all flatD = true ∧ ds[j]? = some e' ∧ eqV (fv e') (fv e) = true ∧ (∀ (m : Nat) (u : D), m < j → ds[m]? = some u → eqV (fv u) (fv e) = false) ∧ P (.int (j : Nat)) M) := ⟨lst_ty, fun {B F M H v d vs ds Q P} r rs s f q => by
  obtain ⟨es, e, j, e', l, e2, h1, h2, hj, h3, h4, k⟩ := f
  subst e2
  obtain ⟨w, ew, rw_⟩ := rs.one
  subst ew
  obtain ⟨p', ws, ev, hw, t⟩ := l.at_ r s
  obtain ⟨f1, f2⟩ := rw_.flat h1
  obtain ⟨g1, g2⟩ := t.flat h2
  refine ⟨p', ws, w, j, fv e', ev, rfl, .inl (.inl hw), f2, g2, by rw [g1, List.getElem?_map, hj]; rfl, by rw [f1]; exact h3, fun m u hm hu => ?_, q _ M k _ B H Ex.refl (.int _) s⟩
  rw [g1, List.getElem?_map] at hu
  cases q2 : es[m]? with
  | none => rw [q2] at hu; cases hu
  | some u' =>
    rw [q2] at hu
    cases hu
    rw [f1]
    exact h4 m u' hm q2⟩
/-! ### slices -/
section
variable {z : Cz} {Γ : Gam} {M : Mem} {te ta tb tc : TE} {P : D → Mem → Prop}
theorem eo_none {P : Option Int → Mem → Prop} (k : P none M) : EO z tNoPart Γ M P := fun B F σ H sl hs Q q => q none M k B H Ex.refl hs
theorem eo_some {P : Option Int → Mem → Prop} (h : EV z te Γ M fun d M1 => ∃ i, d = .int i ∧ P (some i) M1) : EO z (tPart te) Γ M P := fun B F σ H sl hs Q q => h B F σ H sl hs _ fun d M1 ⟨i, e, k⟩ v B1 H1 e1 r1 s1 => by
  subst e
  exact ⟨i, r1.int_inv, q (some i) M1 k B1 H1 e1 s1⟩
def cutD (xs : List D) (lo hi : Option Int) : List D := (xs.drop (HT.sIx xs.length 0 lo)).take (HT.sIx xs.length xs.length hi - HT.sIx xs.length 0 lo)
def rSlU (K : PySem.W.Frag) : V → Option Int → Option Int → Hp → VK → Prop := rSlL K
theorem sx_list {X : Cx} : SlR X (rSlU X.K) := sl_list
theorem ev_sl {tl th : TO} (h : EV z te Γ M fun d M1 => EO z tl Γ M1 fun l M2 => EO z th Γ M2 fun u M3 => ∃ ds, IsL M3 d ds ∧ NewL (cutD ds l u) M3 P) : EV z (tSl (rSlU z.K) te tl th) Γ M P :=
  fun B F σ H sl hs Q q => h B F σ H sl hs _ fun d M1 h1 v B1 H1 e1 r1 s1 => h1 B1 F σ H1 (sl.mono e1) s1 _ fun l M2 h2 B2 H2 e2 s2 => h2 B2 F σ H2 ((sl.mono e1).mono e2) s2 _ fun u M3 ⟨ds, il, n⟩ B3 H3 e3 s3 => by
    obtain ⟨p, vs, ev, hp, t⟩ := il.at_ ((r1.mono e2).mono e3) s3
    refine ⟨p, vs, ev, .inl (.inl hp), fun a ha => n.fin s3 ?_ (Fi.mono (Fi.mono (Fi.mono q e1) e2) e3) ha⟩
    unfold cutD cutV
    rw [t.length]
    exact (t.drop _).take _
theorem ev_rev (h : EV z te Γ M fun d M1 => ∃ ds, IsL M1 d ds ∧ NewL ds.reverse M1 P) : EV z (tRevL z.K te) Γ M P :=
  fun B F σ H sl hs Q q => h B F σ H sl hs _ fun d M1 ⟨ds, il, n⟩ v B1 H1 e1 r1 s1 => by
    obtain ⟨p, vs, ev, hp, t⟩ := il.at_ r1 s1
    exact ⟨p, vs, ev, .inl (.inl hp), fun a ha => n.fin s1 t.reverse (Fi.mono q e1) ha⟩
end
end Lv

set_option Elab.async false
set_option linter.all false
set_option maxRecDepth 100000
set_option maxHeartbeats 4000000
/-! Lay6: comprehensions, dicts, statements, calls over data. -/
namespace Lv
open PySem PySem.Spec PyProof.Rows L2 StX

theorem hdel_upd {F : Hp} {p : Addr} {o : HO} (h : F p = none) : hdel (upd F p o) p = F := by
  funext a
  by_cases ha : a = p
  · subst ha
    rw [hdel_same, h]
  · rw [hdel_ne ha, upd_ne ha]
theorem mdel_mupd {M : Mem} {p : Addr} {o : MO} (h : M p = none) : mdel (mupd M p o) p = M := by
  funext a
  by_cases ha : a = p
  · subst ha
    rw [mdel_same, h]
  · rw [mdel_ne ha, mupd_ne ha]
theorem mdel_mupd2 {M : Mem} {p q : Addr} {o : MO} (h : p ≠ q) : mdel (mupd M p o) q = mupd (mdel M q) p o := by
  funext a
  by_cases ha : a = q
  · subst ha
    rw [mdel_same, mupd_ne h.symm, mdel_same]
  · rw [mdel_ne ha]
    by_cases hb : a = p
    · subst hb
      rw [mupd_same, mupd_same]
    · rw [mupd_ne hb, mupd_ne hb, mdel_ne ha]

section
variable {z : Cz} {Γ : Gam} {M : Mem} {te ta tb tc tk tv : TE} {P : D → Mem → Prop}
/-- the new list at D of the frame comes to the memory, or stands still -/
theorem NewL.ofF {B F : Hp} {H : Hp} {p : Addr} {ds : List D} {vs : List V} {Q : VK} (n : NewL ds M P) (hF : F p = none) (s : Hs z B (upd F p (.lst vs)) M H) (r : Rps z B ds vs) (q : Fi z B F P Q) : Q (.ref p) H := by
  have hp : upd F p (.lst vs) p = some (.lst vs) := upd_same
  obtain ⟨hl, k | k⟩ := n
  · obtain ⟨s2, e⟩ := s.ofFB hp
    rw [hdel_upd hF] at s2
    exact q _ M k _ _ _ e (.sq (k := true) upd_same (by rw [r.length]; exact hl) (r.mono e)) s2
  · have s2 := s.ofF hp (.lst r)
    rw [hdel_upd hF] at s2
    exact q _ _ (k p (s.f p _ hp).2.2) _ B _ Ex.refl (.ref p) s2
/-! ### comprehensions -/
/-- the walk of a comprehension, from its iterator on -/
theorem lc_core {g : TG} {tt : TT} {vs js : List Nat} {J : It} {B F : Hp} {M1 : Mem} {σ : L2.St} {H1 : Hp} {xs : List D} {G : Mem → Prop} {I : Nat → List D → Mem → Prop} {Q : VK} (hj : ∀ j ∈ js, j ∈ vs) (sl : Slots z B σ Γ) (s1 : Hs z B F M1 H1) (wd : WalkD z J B F G xs)
    (hz : xs.length ≤ sizeLine) (i0 : I 0 [] M1) (hG : ∀ (i : Nat) acc m, i ≤ xs.length → I i acc m → G m ∧ acc.length ≤ i)
    (step : ∀ (i : Nat) x acc m, xs[i]? = some x → I i acc m → EG z g js x (wipeG Γ vs) m fun Γ2 M2 => ET z tt Γ2 M2 fun b M3 => (b = true → EV z te Γ2 M3 fun y M4 => I (i + 1) (acc ++ [y]) M4) ∧ (b = false → I (i + 1) acc M3))
    (done : ∀ acc m, I xs.length acc m → NewL acc m P) (q : Fi z B F P Q) : ∀ Dl, H1 Dl = none → ∃ W : Nat → Nat → Hp → Prop, (∃ m, W 0 m (upd H1 Dl (.lst []))) ∧ ∀ i m H, W i m H →
      (J.stop i H ∧ Q (.ref Dl) H) ∨ (J.go i H ∧ ∃ Nx : Hp → Prop, (∀ H', Nx H' → ∃ m', m' < m ∧ W (i + 1) m' H') ∧ ∀ x H', J.yld i H x H' → g x (wipe σ vs) H' fun σ2 H2 => wipe σ2 vs = wipe σ vs ∧ tt σ2 H2 fun b H3 =>
        if b = true then te σ2 H3 fun y H4 => ∃ acc, H4 Dl = some (.lst acc) ∧ acc.length < sizeLine ∧ Nx (upd H4 Dl (.lst (acc ++ [y]))) else Nx H3) := by
  intro Dl hD
  have hF : F Dl = none := (s1.fresh hD).2.1
  have hFF : ∀ us, Ex F (upd F Dl (.lst us)) := fun us => Ex.new hF
  refine ⟨fun i m H' => m = xs.length - i ∧ i ≤ xs.length ∧ ∃ B' acc us M', Ex B B' ∧ Hs z B' (upd F Dl (.lst us)) M' H' ∧ Rps z B' acc us ∧ I i acc M', ⟨_, rfl, Nat.zero_le _, B, [], [], M1, Ex.refl, s1.newF hD (fun ps e => by cases e), .nil, i0⟩, ?_⟩
  rintro i m H' ⟨rfl, hi, B', acc, us, M', e2, s2, ra, iv⟩
  obtain ⟨gm, hacc⟩ := hG i acc M' hi iv
  by_cases hlt : i < xs.length
  · refine .inr ⟨wd.goes i B' _ M' H' hlt s2 e2 (hFF us) gm, fun H'' => ∃ B' acc us M', Ex B B' ∧ Hs z B' (upd F Dl (.lst us)) M' H'' ∧ Rps z B' acc us ∧ I (i + 1) acc M', fun H'' n => ⟨xs.length - (i + 1), by omega, rfl, hlt, n⟩, fun v H2 y => ?_⟩
    obtain ⟨x, hx⟩ : ∃ x, xs[i]? = some x := ⟨_, List.getElem?_eq_getElem hlt⟩
    obtain ⟨B2, e3, s3, r3⟩ := wd.yields i B' _ M' H' v H2 x hx s2 e2 (hFF us) gm y
    have slw : Slots z B2 (wipe σ vs) (wipeG Γ vs) := ((sl.mono e2).mono e3).wipe vs
    refine step i x acc M' hx iv B2 _ (wipe σ vs) H2 v slw s3 r3 _ fun Γ2 M2 h2 B3 σ3 H3 e4 sl3 s4 hw => ⟨?_, ?_⟩
    · rw [hw vs hj, wipe_wipe σ vs vs fun _ h => h]
    · refine h2 B3 _ σ3 H3 sl3 s4 _ fun b M3 h3 B4 H4 e5 s5 => ?_
      cases b with
      | true =>
        refine iteT (h3.1 rfl B4 _ σ3 H4 (sl3.mono e5) s5 _ fun y M4 h4 w B5 H5 e6 r6 s6 => ⟨us, (s6.f Dl _ upd_same).1, ?_, B5, acc ++ [y], us ++ [w], M4, (((e2.trans e3).trans e4).trans e5).trans e6, ?_, ?_, h4⟩)
        · rw [ra.length]
          omega
        · have s7 := s6.setF (p := Dl) (o := .lst us) (u := .lst (us ++ [w])) upd_same trivial (fun ps e => by cases e)
          rw [upd_upd] at s7
          exact s7
        · exact ((((ra.mono e3).mono e4).mono e5).mono e6).append (.cons r6 .nil)
      | false => exact iteF ⟨B4, acc, us, M3, ((e2.trans e3).trans e4).trans e5, s5, ((ra.mono e3).mono e4).mono e5, h3.2 rfl⟩
  · have ei : i = xs.length := by omega
    subst ei
    exact .inl ⟨wd.stops B' _ M' H' s2 e2 (hFF us) gm, (done acc M' iv).ofF hF s2 ra (Fi.mono q e2)⟩
theorem ev_lc {wi : TI} {g : TG} {tt : TT} {vs : List Nat} (js : List Nat) (hj : ∀ j ∈ js, j ∈ vs)
    (h : EI z wi Γ M fun xs G M1 => xs.length ≤ sizeLine ∧ ∃ I : Nat → List D → Mem → Prop, I 0 [] M1 ∧ (∀ (i : Nat) acc m, i ≤ xs.length → I i acc m → G m ∧ acc.length ≤ i) ∧
      (∀ (i : Nat) x acc m, xs[i]? = some x → I i acc m → EG z g js x (wipeG Γ vs) m fun Γ2 M2 => ET z tt Γ2 M2 fun b M3 => (b = true → EV z te Γ2 M3 fun y M4 => I (i + 1) (acc ++ [y]) M4) ∧ (b = false → I (i + 1) acc M3)) ∧
      ∀ acc m, I xs.length acc m → NewL acc m P) : EV z (tLc wi g tt te vs) Γ M P := by
  intro B F σ H sl hs Q q
  exact h B F σ H sl hs _ fun xs G M1 ⟨hz, I, i0, hG, step, done⟩ J B1 H1 e1 s1 wd => lc_core hj (sl.mono e1) s1 wd hz i0 hG step done (Fi.mono q e1)
theorem walk_keysD {B F0 : Hp} {d : Addr} {o : Obj} {kvs : List (Key × D)} {ws : List (Key × V)} (t : Rpk z B kvs ws) (h : F0 d = some (.frz o (.dK ws))) : WalkD z (Itk d o ws) B F0 (fun _ => True) (kvs.map fun e => kD e.1) where
  goes := fun i B' F M H hi s e f g => ⟨(s.f _ _ (f _ _ h)).1, by rw [t.length]; simpa using hi⟩
  stops := fun B' F M H s e f g => ⟨(s.f _ _ (f _ _ h)).1, by rw [t.length]; simp⟩
  yields := fun i B' F M H x H' dx hd s e f g y => by
    obtain ⟨eH, k, v, hk, ex⟩ := y
    subst eH ex
    obtain ⟨w, hw, rw_⟩ := t.keys.get hd
    rw [List.getElem?_map, hk] at hw
    cases hw
    exact ⟨B', Ex.refl, s, rw_.mono e⟩
/-- a comprehension over a dict's keys, nothing changed -/
theorem ev_lcK {g : TG} {tt : TT} {vs : List Nat} {i : Nat} {p : Addr} {kvs : List (Key × D)} (js : List Nat) (hj : ∀ j ∈ js, j ∈ vs) (c : D → Bool) (f : D → D) (hi : Γ[i]? = some (some (.ref p))) (hp : M p = some (.dK kvs)) (hz : kvs.length ≤ sizeLine)
    (step : ∀ (i : Nat) x, (kvs.map fun e => kD e.1)[i]? = some x → EG z g js x (wipeG Γ vs) (mdel M p) fun Γ2 M2 => M2 = mdel M p ∧ ET z tt Γ2 (mdel M p) fun b M3 => b = c x ∧ M3 = mdel M p ∧ (b = true → EV z te Γ2 (mdel M p) fun y M4 => y = f x ∧ M4 = mdel M p))
    (done : (((kvs.map fun e => kD e.1).filter c).map f).length ≤ sizeLine ∧ P (.sq true (((kvs.map fun e => kD e.1).filter c).map f)) M) : EV z (tLockE (tLc (iKeys (tVar i)) g tt te vs)) Γ M P := by
  intro B F σ H sl hs Q q
  obtain ⟨ws, hw, t⟩ := cellK hs hp
  have hB := (hs.m p _ hp).1
  have hF : F p = none := by
    cases e : F p with
    | none => rfl
    | some u =>
      have h2 := (hs.f p u e).2.2
      rw [hp] at h2
      cases h2
  refine ⟨p, .dK ws, hw, trivial, fun od => ?_⟩
  have s0 := hs.toF hp hw (fun ps e => by cases e)
  have s1 : Hs z B (upd F p (.frz od (.dK ws))) (mdel M p) (upd H p (.frz od (.dK ws))) := by
    have s2 := s0.setF (p := p) (o := .dK ws) (u := .frz od (.dK ws)) upd_same trivial (fun ps e => by cases e)
    rw [upd_upd] at s2
    exact s2
  obtain ⟨v, h1, h2⟩ := sl.2 i _ hi
  refine ⟨v, h1, p, od, h2.ref_inv, .inl ⟨ws, upd_same, ?_⟩⟩
  have hM : mupd (mdel M p) p (.dK kvs) = M := by
    funext a
    by_cases ha : a = p
    · subst ha
      rw [mupd_same, hp]
    · rw [mupd_ne ha, mdel_ne ha]
  refine lc_core (g := g) (tt := tt) (te := te) (Q := fun v H' => H' p = some (.frz od (.dK ws)) ∧ Q v (upd H' p (.dK ws))) (P := fun d M' => d = .sq true (((kvs.map fun e => kD e.1).filter c).map f) ∧ M' = mdel M p) hj sl s1 (walk_keysD t upd_same) (by simpa using hz)
    (I := fun i acc m => acc = (((kvs.map fun e => kD e.1).take i).filter c).map f ∧ m = mdel M p) ⟨by simp, rfl⟩ (fun i acc m hi ⟨e1, e2⟩ => ⟨trivial, ?_⟩) (fun i x acc m hx ⟨e1, e2⟩ => ?_) (fun acc m ⟨e1, e2⟩ => ?_) ?_
  · rw [e1, List.length_map]
    refine Nat.le_trans (List.length_filter_le _ _) ?_
    rw [List.length_take]
    omega
  · subst e1 e2
    have ht : (kvs.map fun e => kD e.1).take (i + 1) = (kvs.map fun e => kD e.1).take i ++ [x] := by rw [List.take_add_one, hx]; rfl
    intro B F σ H v sl hs r Q q2
    refine step i x hx B F σ H v sl hs r Q fun Γ2 M2 ⟨e3, h3⟩ => q2 Γ2 M2 ?_
    subst e3
    refine h3.imp fun b M3 ⟨e4, e5, h4⟩ => ⟨fun hb => ?_, fun hb => ?_⟩
    · subst e5
      refine (h4 hb).imp fun y M4 ⟨e6, e7⟩ => ⟨?_, e7⟩
      rw [ht, List.filter_append, List.map_append, e6]
      congr 1
      have : c x = true := e4.symm.trans hb
      simp [this]
    · refine ⟨?_, e5⟩
      rw [ht, List.filter_append, List.map_append]
      have : c x = false := e4.symm.trans hb
      simp [this]
  · subst e1 e2
    rw [List.take_length]
    exact ⟨done.1, .inl ⟨rfl, rfl⟩⟩
  · intro d M' ⟨ed, em⟩ w B' H' e' r' s'
    subst ed em
    refine ⟨(s'.f p _ upd_same).1, ?_⟩
    have s2 := s'.setF (p := p) (o := .frz od (.dK ws)) (u := .dK ws) upd_same trivial (fun ps e => by cases e)
    rw [upd_upd] at s2
    have s3 := s2.ofF (p := p) (m := .dK kvs) upd_same (.dK (t.mono e'))
    rw [hdel_upd hF, hM] at s3
    exact q _ M done.2 w B' _ e' r' s3
/-- an element for each item that the test lets, nothing changed -/
theorem ev_lcP {wi : TI} {g : TG} {tt : TT} {vs : List Nat} (js : List Nat) (hj : ∀ j ∈ js, j ∈ vs) (c : D → Bool) (f : D → D)
    (h : EI z wi Γ M fun xs G M1 => xs.length ≤ sizeLine ∧ G M1 ∧
      (∀ (i : Nat) x, xs[i]? = some x → EG z g js x (wipeG Γ vs) M1 fun Γ2 M2 => M2 = M1 ∧ ET z tt Γ2 M1 fun b M3 => b = c x ∧ M3 = M1 ∧ (b = true → EV z te Γ2 M1 fun y M4 => y = f x ∧ M4 = M1)) ∧
      NewL ((xs.filter c).map f) M1 P) : EV z (tLc wi g tt te vs) Γ M P := by
  refine ev_lc js hj fun B F σ H sl hs RR q => h B F σ H sl hs RR fun xs G M1 ⟨hz, hG, step, done⟩ => q xs G M1 ⟨hz, fun i acc m => acc = ((xs.take i).filter c).map f ∧ m = M1, ⟨by simp, rfl⟩, fun i acc m hi ⟨e1, e2⟩ => ⟨by rw [e2]; exact hG, ?_⟩, fun i x acc m hx ⟨e1, e2⟩ => ?_, fun acc m ⟨e1, e2⟩ => ?_⟩
  · rw [e1, List.length_map]
    refine Nat.le_trans (List.length_filter_le _ _) ?_
    rw [List.length_take]
    omega
  · subst e1 e2
    have ht : xs.take (i + 1) = xs.take i ++ [x] := by rw [List.take_add_one, hx]; rfl
    intro B F σ H v sl hs r Q q2
    refine step i x hx B F σ H v sl hs r Q fun Γ2 M2 ⟨e3, h3⟩ => q2 Γ2 M2 ?_
    subst e3
    refine h3.imp fun b M3 ⟨e4, e5, h4⟩ => ⟨fun hb => ?_, fun hb => ?_⟩
    · subst e5
      refine (h4 hb).imp fun y M4 ⟨e6, e7⟩ => ⟨?_, e7⟩
      rw [ht, List.filter_append, List.map_append, e6]
      congr 1
      have : c x = true := e4.symm.trans hb
      simp [this]
    · refine ⟨?_, e5⟩
      rw [ht, List.filter_append, List.map_append]
      have : c x = false := e4.symm.trans hb
      simp [this]
  · subst e1 e2
    rw [List.take_length]
    exact done
/-! ### dicts -/
def putD (kvs : List (Key × D)) (k : Key) (v : D) : List (Key × D) :=
  if (kvs.any fun kv => decide (kv.1 = k)) = true then kvs.map (fun kv => if kv.1 = k then (kv.1, v) else kv) else kvs ++ [(k, v)]
def valD (kvs : List (Key × D)) (k : Key) : Option D := (kvs.find? fun kv => decide (kv.1 = k)).map (·.2)
theorem Rpk.any {B : Hp} {k : Key} : ∀ {ds : List (Key × D)} {vs : List (Key × V)}, Rpk z B ds vs → (vs.any fun kv => decide (kv.1 = k)) = ds.any fun kv => decide (kv.1 = k)
  | _, _, .nil => rfl
  | _, _, .cons r t => by rw [List.any_cons, List.any_cons, Rpk.any t]
theorem Rpk.append {B : Hp} : ∀ {ds es : List (Key × D)} {vs ws : List (Key × V)}, Rpk z B ds vs → Rpk z B es ws → Rpk z B (ds ++ es) (vs ++ ws)
  | _, _, _, _, .nil, s => s
  | _, _, _, _, .cons r t, s => .cons r (Rpk.append t s)
theorem Rpk.put {B : Hp} {k : Key} {d : D} {v : V} (r : Rp z B d v) {ds : List (Key × D)} {vs : List (Key × V)} (t : Rpk z B ds vs) : Rpk z B (putD ds k d) (putK vs k v) := by
  unfold putD putK
  rw [t.any]
  split
  · rename_i hc
    clear hc
    induction t with
    | nil => exact .nil
    | @cons f d' ds v' vs r' t' ih =>
      rw [List.map_cons, List.map_cons]
      by_cases hf : f = k
      · show Rpk z B ((if f = k then (f, d) else (f, d')) :: _) ((if f = k then (f, v) else (f, v')) :: _)
        rw [if_pos hf, if_pos hf]
        exact .cons r ih
      · show Rpk z B ((if f = k then (f, d) else (f, d')) :: _) ((if f = k then (f, v) else (f, v')) :: _)
        rw [if_neg hf, if_neg hf]
        exact .cons r' ih
  · exact t.append (.cons r .nil)
theorem Rpk.val {B : Hp} {k : Key} : ∀ {ds : List (Key × D)} {vs : List (Key × V)}, Rpk z B ds vs → (∀ d, valD ds k = some d → ∃ v, valV vs k = some v ∧ Rp z B d v) ∧ (valD ds k = none → valV vs k = none)
  | _, _, .nil => ⟨(fun d h => by cases h), fun _ => rfl⟩
  | _, _, .cons (f := f) (d := d0) (v := v0) (ds := ds) (vs := vs) r t => by
    unfold valD valV
    rw [List.find?_cons, List.find?_cons]
    by_cases hf : f = k
    · have e : decide (f = k) = true := decide_eq_true hf
      constructor
      · intro d h
        simp only [e, Option.map_some, Option.some.injEq] at h ⊢
        subst h
        exact ⟨_, rfl, r⟩
      · intro h
        simp [e] at h
    · have e : decide (f = k) = false := decide_eq_false hf
      simp only [e]
      exact Rpk.val t
def keyOfD : D → Option Key
  | .int i => some (.inl i)
  | .str s => some (.inr s)
  | _ => none
theorem Rp.key {B : Hp} {d : D} {v : V} {k : Key} (r : Rp z B d v) (h : keyOfD d = some k) : v = kV k := by
  cases r <;> first | (cases h; rfl) | (cases h)
theorem ev_dget (h : EV z ta Γ M fun d M1 => EV z tb Γ M1 fun e M2 => ∃ p kvs k u, d = .ref p ∧ M2 p = some (.dK kvs) ∧ keyOfD e = some k ∧ valD kvs k = some u ∧ P u M2) : EV z (tDGet ta tb) Γ M P :=
  fun B F σ H sl hs Q q => h B F σ H sl hs _ fun d M1 h1 v B1 H1 e1 r1 s1 => h1 B1 F σ H1 (sl.mono e1) s1 _ fun e M2 ⟨p, kvs, k, u, ed, hp, hk, hu, kk⟩ w B2 H2 e2 r2 s2 => by
    subst ed
    obtain ⟨ws, hw, t⟩ := cellK s2 hp
    obtain ⟨x, hx, rx⟩ := (Rpk.val (k := k) t).1 u hu
    refine ⟨p, x, r1.ref_inv, ?_, q _ M2 kk _ B2 H2 (e1.trans e2) rx s2⟩
    rw [r2.key hk, ← hx]
    exact DGet.k hw
theorem et_dnin {P : Bool → Mem → Prop} (h : EV z ta Γ M fun e M1 => EV z tb Γ M1 fun d M2 => ∃ p kvs k, d = .ref p ∧ M2 p = some (.dK kvs) ∧ keyOfD e = some k ∧ P (!(valD kvs k).isSome) M2) : ET z (tB (tDNotIn ta tb)) Γ M P :=
  fun B F σ H sl hs Q q => h B F σ H sl hs _ fun e M1 h1 w B1 H1 e1 r1 s1 => h1 B1 F σ H1 (sl.mono e1) s1 _ fun d M2 ⟨p, kvs, k, ed, hp, hk, kk⟩ v B2 H2 e2 r2 s2 => by
    subst ed
    obtain ⟨ws, hw, t⟩ := cellK s2 hp
    refine ⟨p, valV ws k, r2.ref_inv, ?_, _, rfl, ?_⟩
    · rw [(r1.mono e2).key hk]
      exact DGet.k hw
    · have e3 : (valV ws k).isSome = (valD kvs k).isSome := by
        cases q2 : valD kvs k with
        | none => rw [(Rpk.val t).2 q2]; rfl
        | some u =>
          obtain ⟨x, hx, _⟩ := (Rpk.val (k := k) t).1 u q2
          rw [hx]; rfl
      rw [e3]
      exact q _ M2 kk B2 H2 (e1.trans e2) s2
/-- a new dict by a comprehension: a cell -/
theorem ev_dc {wi : TI} {g : TG} {tt : TT} {vs : List Nat} (js : List Nat) (hj : ∀ j ∈ js, j ∈ vs)
    (h : EI z wi Γ M fun xs G M1 => xs.length ≤ sizeLine ∧ ∃ I : Nat → List (Key × D) → Mem → Prop, I 0 [] M1 ∧ (∀ (i : Nat) acc m, i ≤ xs.length → I i acc m → G m ∧ acc.length ≤ i) ∧
      (∀ (i : Nat) x acc m, xs[i]? = some x → I i acc m → EG z g js x (wipeG Γ vs) m fun Γ2 M2 => ET z tt Γ2 M2 fun b M3 => (b = true → EV z tk Γ2 M3 fun y M4 => EV z tv Γ2 M4 fun u M5 => ∃ k, keyOfD y = some k ∧ I (i + 1) (putD acc k u) M5) ∧ (b = false → I (i + 1) acc M3)) ∧
      ∀ acc m, I xs.length acc m → ∀ p, m p = none → P (.ref p) (mupd m p (.dK acc))) : EV z (tDc wi g tt tk tv vs) Γ M P := by
  intro B F σ H sl hs Q q
  refine h B F σ H sl hs _ fun xs G M1 ⟨hz, I, i0, hG, step, done⟩ J B1 H1 e1 s1 wd Dl hD => ?_
  have hF : F Dl = none := (s1.fresh hD).2.1
  refine ⟨fun i m H' => m = xs.length - i ∧ i ≤ xs.length ∧ ∃ B' acc us M', Ex B1 B' ∧ Hs z B' (upd F Dl (.dK us)) M' H' ∧ Rpk z B' acc us ∧ I i acc M', ⟨_, rfl, Nat.zero_le _, B1, [], [], M1, Ex.refl, s1.newF hD (fun ps e => by cases e), .nil, i0⟩, ?_⟩
  rintro i m H' ⟨rfl, hi, B', acc, us, M', e2, s2, ra, iv⟩
  obtain ⟨gm, hacc⟩ := hG i acc M' hi iv
  by_cases hlt : i < xs.length
  · refine .inr ⟨wd.goes i B' _ M' H' hlt s2 e2 (Ex.new hF) gm, fun H'' => ∃ B' acc us M', Ex B1 B' ∧ Hs z B' (upd F Dl (.dK us)) M' H'' ∧ Rpk z B' acc us ∧ I (i + 1) acc M', fun H'' n => ⟨xs.length - (i + 1), by omega, rfl, hlt, n⟩, fun v H2 y => ?_⟩
    obtain ⟨x, hx⟩ : ∃ x, xs[i]? = some x := ⟨_, List.getElem?_eq_getElem hlt⟩
    obtain ⟨B2, e3, s3, r3⟩ := wd.yields i B' _ M' H' v H2 x hx s2 e2 (Ex.new hF) gm y
    have slw : Slots z B2 (wipe σ vs) (wipeG Γ vs) := (((sl.mono e1).mono e2).mono e3).wipe vs
    refine step i x acc M' hx iv B2 _ (wipe σ vs) H2 v slw s3 r3 _ fun Γ2 M2 h2 B3 σ3 H3 e4 sl3 s4 hw => ⟨?_, ?_⟩
    · rw [hw vs hj, wipe_wipe σ vs vs fun _ h => h]
    · refine h2 B3 _ σ3 H3 sl3 s4 _ fun b M3 h3 B4 H4 e5 s5 => ?_
      cases b with
      | true =>
        refine iteT (h3.1 rfl B4 _ σ3 H4 (sl3.mono e5) s5 _ fun y M4 h4 w B5 H5 e6 r6 s6 => h4 B5 _ σ3 H5 ((sl3.mono e5).mono e6) s6 _ fun u M5 ⟨k, hk, h5⟩ w2 B6 H6 e7 r7 s7 =>
          ⟨us, k, (r6.mono e7).key hk, (s7.f Dl _ upd_same).1, ?_, B6, putD acc k u, putK us k w2, M5, ((((e2.trans e3).trans e4).trans e5).trans e6).trans e7, ?_, ?_, h5⟩)
        · rw [ra.length]
          omega
        · have s8 := s7.setF (p := Dl) (o := .dK us) (u := .dK (putK us k w2)) upd_same trivial (fun ps e => by cases e)
          rw [upd_upd] at s8
          exact s8
        · exact Rpk.put r7 (((((ra.mono e3).mono e4).mono e5).mono e6).mono e7)
      | false => exact iteF ⟨B4, acc, us, M3, ((e2.trans e3).trans e4).trans e5, s5, ((ra.mono e3).mono e4).mono e5, h3.2 rfl⟩
  · have ei : i = xs.length := by omega
    subst ei
    refine .inl ⟨wd.stops B' _ M' H' s2 e2 (Ex.new hF) gm, ?_⟩
    have hp : upd F Dl (.dK us) Dl = some (.dK us) := upd_same
    have s3 := s2.ofF hp (.dK ra)
    rw [hdel_upd hF] at s3
    exact q _ _ (done acc M' iv Dl (s2.f Dl _ hp).2.2) _ B' _ (e1.trans e2) (.ref Dl) s3

/-! ### targets -/
variable {g : TG} {gs : TGs} {d : D} {k : Gam → Mem → Prop}
theorem eg_name {i : Nat} (h : k (Γ.set i (some d)) M) : EG z (gName i) [i] d Γ M k := fun B F σ H v sl hs r Q q =>
  q _ M h B _ H Ex.refl (sl.set r i) hs fun vs hv => wipe_set (hv i (List.mem_singleton.mpr rfl))
theorem egs_nil (h : k Γ M) : EGs z gNil [] [] Γ M k := fun B F σ H vs sl hs r Q q => by
  cases r
  exact ⟨rfl, q _ M h B σ H Ex.refl sl hs fun _ _ => rfl⟩
theorem egs_cons {js ks : List Nat} {ds : List D} (h : EG z g js d Γ M fun Γ1 M1 => EGs z gs ks ds Γ1 M1 k) : EGs z (gCons g gs) (js ++ ks) (d :: ds) Γ M k := fun B F σ H vs sl hs r Q q => by
  cases r with
  | cons r t =>
    refine ⟨_, _, rfl, h B F σ H _ sl hs r _ fun Γ1 M1 h1 B1 σ1 H1 e1 sl1 s1 w1 => h1 B1 F σ1 H1 _ sl1 s1 (t.mono e1) Q fun Γ2 M2 h2 B2 σ2 H2 e2 sl2 s2 w2 => q Γ2 M2 h2 B2 σ2 H2 (e1.trans e2) sl2 s2 fun vs hv => ?_⟩
    rw [w2 vs fun j hj => hv j (List.mem_append_right _ hj), w1 vs fun j hj => hv j (List.mem_append_left _ hj)]
theorem eg_tup {n : Nat} {js : List Nat} {ds : List D} (hl : ds.length = n) (h : EGs z gs js ds Γ M k) : EG z (gTup z.K n gs) js (.sq false ds) Γ M k := fun B F σ H v sl hs r Q q => by
  obtain ⟨p, vs, e, hb, _, t⟩ := r.sq_inv
  subst e
  exact ⟨p, vs, rfl, .inl (.inl (hs.b _ _ hb)), by rw [t.length]; exact hl, h B F σ H vs sl hs t Q q⟩
theorem eg_unl {n : Nat} {js : List Nat} {ds : List D} (hl : ds.length = n) (h : EGs z gs js ds Γ M k) : EG z (gUnl z.K n gs) js (.sq true ds) Γ M k := fun B F σ H v sl hs r Q q => by
  obtain ⟨p, vs, e, hb, _, t⟩ := r.sq_inv
  subst e
  exact ⟨p, vs, rfl, .inl (.inl (hs.b _ _ hb)), by rw [t.length]; exact hl, h B F σ H vs sl hs t Q q⟩
/-- xs[i] = v, a cell's item -/
theorem eg_setL (h : EV z ta Γ M fun d1 M1 => EV z tb Γ M1 fun d2 M2 => ∃ p ds i j, d1 = .ref p ∧ M2 p = some (.lst ds) ∧ d2 = .int i ∧ ixN ds.length i = some j ∧ k Γ (mupd M2 p (.lst (ds.set j d)))) : EG z (gSub ta tb rSetL) [] d Γ M k :=
  fun B F σ H v sl hs r Q q => h B F σ H sl hs _ fun d1 M1 h1 v1 B1 H1 e1 r1 s1 => h1 B1 F σ H1 (sl.mono e1) s1 _ fun d2 M2 ⟨p, ds, i, j, ed, hp, e2', hj, kk⟩ v2 B2 H2 e2 r2 s2 => by
    subst ed e2'
    obtain ⟨p', ws, ev, hw, t⟩ := IsL.at_ (.inr ⟨p, rfl, hp⟩) (r1.mono e2) s2
    have := r1.ref_inv
    rw [ev] at this
    cases this
    refine ⟨p, ws, i, j, ev, r2.int_inv, hw, by rw [t.length]; exact hj, ?_⟩
    exact q _ _ kk B2 _ _ (e1.trans e2) ((sl.mono e1).mono e2) (s2.setM hp (.lst (Rps.set ((r.mono e1).mono e2) j t))) fun _ _ => rfl
/-- d[k] = v, a cell -/
theorem eg_setD (h : EV z ta Γ M fun d1 M1 => EV z tb Γ M1 fun d2 M2 => ∃ p kvs kk, d1 = .ref p ∧ M2 p = some (.dK kvs) ∧ keyOfD d2 = some kk ∧ kvs.length < sizeLine ∧ k Γ (mupd M2 p (.dK (putD kvs kk d)))) : EG z (gSub ta tb rSetD) [] d Γ M k :=
  fun B F σ H v sl hs r Q q => h B F σ H sl hs _ fun d1 M1 h1 v1 B1 H1 e1 r1 s1 => h1 B1 F σ H1 (sl.mono e1) s1 _ fun d2 M2 ⟨p, kvs, kk, ed, hp, hk, hl, kx⟩ v2 B2 H2 e2 r2 s2 => by
    subst ed
    obtain ⟨ws, hw, t⟩ := cellK s2 hp
    refine ⟨p, _, r1.ref_inv, by rw [r2.key hk]; exact DPut.k hw (by rw [t.length]; exact hl), ?_⟩
    exact q _ _ kx B2 _ _ (e1.trans e2) ((sl.mono e1).mono e2) (s2.setM hp (.dK (Rpk.put ((r.mono e1).mono e2) t))) fun _ _ => rfl

/-! ### statements -/
variable {E : PN} {ts tu tw : TS} {tt : TT}
theorem s_next (h : E.nx Γ M) : EVS z tNext Γ M E := fun B F σ H D sl hs l => l.nx _ _ h B σ H Ex.refl sl hs
theorem s_seq (h : EVS z ts Γ M { E with nx := fun Γ1 M1 => EVS z tu Γ1 M1 E }) : EVS z (tSeq ts tu) Γ M E := fun B F σ H D sl hs l =>
  h B F σ H _ sl hs ⟨fun Γ1 M1 h1 B1 σ1 H1 e1 sl1 s1 => h1 B1 F σ1 H1 D sl1 s1 (l.mono e1), l.rt, l.bk, l.ct⟩
theorem s_asg {js : List Nat} (h : EV z te Γ M fun d M1 => EG z g js d Γ M1 E.nx) : EVS z (tAsg te g) Γ M E := fun B F σ H D sl hs l =>
  h B F σ H sl hs _ fun d M1 h1 v B1 H1 e1 r1 s1 => h1 B1 F σ H1 v (sl.mono e1) s1 r1 _ fun Γ2 M2 h2 B2 σ2 H2 e2 sl2 s2 _ => l.nx _ _ h2 B2 σ2 H2 (e1.trans e2) sl2 s2
theorem s_set {i : Nat} (h : EV z te Γ M fun d M1 => E.nx (Γ.set i (some d)) M1) : EVS z (tAsg te (gName i)) Γ M E := s_asg (h.imp fun d M1 h1 => eg_name h1)
theorem s_ret (h : EV z te Γ M E.rt) : EVS z (tRet te) Γ M E := fun B F σ H D sl hs l => h B F σ H sl hs _ l.rt
theorem s_drop (h : EV z te Γ M fun _ M1 => E.nx Γ M1) : EVS z (tDrop te) Γ M E := fun B F σ H D sl hs l =>
  h B F σ H sl hs _ fun d M1 h1 v B1 H1 e1 r1 s1 => l.nx _ _ h1 B1 σ H1 e1 (sl.mono e1) s1
theorem s_if (h : ET z tt Γ M fun b M1 => (b = true → EVS z tu Γ M1 E) ∧ (b = false → EVS z tw Γ M1 E)) : EVS z (tIfS tt tu tw) Γ M E := fun B F σ H D sl hs l =>
  h B F σ H sl hs _ fun b M1 h1 B1 H1 e1 s1 => by
    cases b with
    | true => exact iteT (h1.1 rfl B1 F σ H1 D (sl.mono e1) s1 (l.mono e1))
    | false => exact iteF (h1.2 rfl B1 F σ H1 D (sl.mono e1) s1 (l.mono e1))
theorem s_par {i j : Nat} {ta : TA} (h : EA z ta Γ M fun ds M1 => ∃ a b, ds = [a, b] ∧ E.nx ((Γ.set i (some a)).set j (some b)) M1) : EVS z (tPar i j ta) Γ M E := fun B F σ H D sl hs l =>
  h B F σ H sl hs _ fun ds M1 ⟨a, b, e, h1⟩ vs B1 H1 e1 r1 s1 => by
    subst e
    obtain ⟨v, w, ev, ra, rb⟩ := r1.two
    exact ⟨v, w, ev, l.nx _ _ h1 B1 _ H1 e1 (((sl.mono e1).set ra i).set rb j) s1⟩
theorem s_par3 {i j n : Nat} {ta : TA} (h : EA z ta Γ M fun ds M1 => ∃ a b c, ds = [a, b, c] ∧ E.nx (((Γ.set i (some a)).set j (some b)).set n (some c)) M1) : EVS z (tPar3 i j n ta) Γ M E := fun B F σ H D sl hs l =>
  h B F σ H sl hs _ fun ds M1 ⟨a, b, c, e, h1⟩ vs B1 H1 e1 r1 s1 => by
    subst e
    cases r1 with
    | cons ra r1 =>
      obtain ⟨v, w, ev, rb, rc⟩ := r1.two
      subst ev
      exact ⟨_, v, w, rfl, l.nx _ _ h1 B1 _ H1 e1 ((((sl.mono e1).set ra i).set rb j).set rc n) s1⟩
def ipAdd : TIp := rI0 fun i j => .int (i + j)
theorem ip_addU {X : Cx} : PIp X .Add ipAdd := iop_add
def ipFd : TIp := rI CDiv fun i j => .int (i / j)
theorem ip_fdU {X : Cx} : PIp X .FloorDiv ipFd := iop_fdiv
theorem s_augAdd {i : Nat} {a : Int} (hi : Γ[i]? = some (some (.int a))) (h : EV z te Γ M fun d M1 => ∃ b, d = .int b ∧ E.nx (Γ.set i (some (.int (a + b)))) M1) : EVS z (tAug i te ipAdd) Γ M E := fun B F σ H D sl hs l => by
  obtain ⟨v, h1, h2⟩ := sl.2 i _ hi
  refine ⟨v, h1, h B F σ H sl hs _ fun d M1 ⟨b, e, k⟩ w B1 H1 e1 r1 s1 => ?_⟩
  subst e
  exact ⟨a, b, h2.int_inv, r1.int_inv, l.nx _ _ k B1 _ H1 e1 ((sl.mono e1).set (.int _) i) s1⟩
theorem s_augFd {i : Nat} {a : Int} (hi : Γ[i]? = some (some (.int a))) (h : EV z te Γ M fun d M1 => ∃ b, d = .int b ∧ CDiv a b ∧ E.nx (Γ.set i (some (.int (a / b)))) M1) : EVS z (tAug i te ipFd) Γ M E := fun B F σ H D sl hs l => by
  obtain ⟨v, h1, h2⟩ := sl.2 i _ hi
  refine ⟨v, h1, h B F σ H sl hs _ fun d M1 ⟨b, e, hc, k⟩ w B1 H1 e1 r1 s1 => ?_⟩
  subst e
  exact ⟨a, b, h2.int_inv, r1.int_inv, hc, l.nx _ _ k B1 _ H1 e1 ((sl.mono e1).set (.int _) i) s1⟩
def putFD (f : Str) (v : D) : List (Str × D) → List (Str × D)
  | [] => [(f, v)]
  | (g, x) :: r => if g = f then (g, v) :: r else (g, x) :: putFD f v r
theorem Rpf.put {B : Hp} {f : Str} {d : D} {v : V} (r : Rp z B d v) : ∀ {ds : List (Str × D)} {vs : List (Str × V)}, Rpf z B ds vs → Rpf z B (putFD f d ds) (putF f v vs)
  | _, _, .nil => .cons r .nil
  | _, _, .cons (f := g) r' t => by
    unfold putFD putF
    by_cases hg : g = f
    · rw [if_pos hg, if_pos hg]
      exact .cons r t
    · rw [if_neg hg, if_neg hg]
      exact .cons r' (Rpf.put r t)
theorem cellI {B F : Hp} {M : Mem} {H : Hp} {p C : Addr} {fs : List (Str × D)} (s : Hs z B F M H) (h : M p = some (.ins C fs)) : ∃ dx ws, H p = some (.ins C dx ws) ∧ Rpf z B fs ws := by
  obtain ⟨_, hm⟩ := s.m p _ h
  cases q : H p with
  | none => rw [q] at hm; cases hm
  | some u =>
    rw [q] at hm
    cases hm with
    | ins r => exact ⟨_, _, rfl, r⟩
theorem s_fld {f : Str} (h : EV z tv Γ M fun u M1 => EV z ta Γ M1 fun d M2 => ∃ p C fs, d = .ref p ∧ M2 p = some (.ins C fs) ∧ Cls z.K C ∧ NoAttr z.K C f ∧ fs.length < 1000 ∧ E.nx Γ (mupd M2 p (.ins C (putFD f u fs)))) : EVS z (sFld z.K ta tv f) Γ M E := fun B F σ H D sl hs l =>
  h B F σ H sl hs _ fun u M1 h1 v B1 H1 e1 r1 s1 => h1 B1 F σ H1 (sl.mono e1) s1 _ fun d M2 ⟨p, C, fs, e, hp, hc, hn, hl, k⟩ w B2 H2 e2 r2 s2 => by
    subst e
    obtain ⟨dx, ws, hw, t⟩ := cellI s2 hp
    exact ⟨p, C, dx, ws, r2.ref_inv, hw, hc, hn, by rw [t.length]; exact hl, l.nx _ _ k B2 σ _ (e1.trans e2) ((sl.mono e1).mono e2) (s2.setM hp (.ins (Rpf.put (r1.mono e2) t)))⟩
theorem s_dput (h : EV z tv Γ M fun u M1 => EV z ta Γ M1 fun d M2 => EV z tb Γ M2 fun e M3 => ∃ p kvs k, d = .ref p ∧ M3 p = some (.dK kvs) ∧ keyOfD e = some k ∧ kvs.length < sizeLine ∧ E.nx Γ (mupd M3 p (.dK (putD kvs k u)))) : EVS z (sDPut ta tb tv) Γ M E := fun B F σ H D sl hs l =>
  h B F σ H sl hs _ fun u M1 h1 v B1 H1 e1 r1 s1 => h1 B1 F σ H1 (sl.mono e1) s1 _ fun d M2 h2 w B2 H2 e2 r2 s2 => h2 B2 F σ H2 ((sl.mono e1).mono e2) s2 _ fun e M3 ⟨p, kvs, k, ed, hp, hk, hl, kx⟩ x B3 H3 e3 r3 s3 => by
    subst ed
    obtain ⟨ws, hw, t⟩ := cellK s3 hp
    refine ⟨p, _, r2.ref_inv, by rw [r3.key hk]; exact DPut.k hw (by rw [t.length]; exact hl), ?_⟩
    exact l.nx _ _ kx B3 σ _ ((e1.trans e2).trans e3) (((sl.mono e1).mono e2).mono e3) (s3.setM hp (.dK (Rpk.put ((r1.mono e2).mono e3) t)))
theorem s_for {wi : TI} {js : List Nat} (h : EI z wi Γ M fun xs G M1 => ∃ I : Nat → Gam → Mem → Prop, I 0 Γ M1 ∧ (∀ (i : Nat) γ m, i ≤ xs.length → I i γ m → G m) ∧
      (∀ (i : Nat) x γ m, xs[i]? = some x → I i γ m → EG z g js x γ m fun Γ2 M2 => EVS z tu Γ2 M2 ⟨I (i + 1), E.rt, E.nx, I (i + 1)⟩) ∧ ∀ γ m, I xs.length γ m → E.nx γ m) : EVS z (tFor wi g tu) Γ M E := by
  intro B F σ H D sl hs l
  refine h B F σ H sl hs _ fun xs G M1 ⟨I, i0, hG, step, done⟩ J B1 H1 e1 s1 wd => ?_
  refine ⟨fun i m σ' H' => m = xs.length - i ∧ i ≤ xs.length ∧ ∃ B' γ M', Ex B1 B' ∧ Slots z B' σ' γ ∧ Hs z B' F M' H' ∧ I i γ M', ⟨_, rfl, Nat.zero_le _, B1, Γ, M1, Ex.refl, sl.mono e1, s1, i0⟩, ?_⟩
  rintro i m σ' H' ⟨rfl, hi, B', γ, M', e2, sl2, s2, iv⟩
  have gm := hG i γ M' hi iv
  by_cases hlt : i < xs.length
  · refine .inr ⟨wd.goes i B' _ M' H' hlt s2 e2 Ex.refl gm, fun σ'' H'' => ∃ B' γ M', Ex B1 B' ∧ Slots z B' σ'' γ ∧ Hs z B' F M' H'' ∧ I (i + 1) γ M', fun σ'' H'' n => ⟨xs.length - (i + 1), by omega, rfl, hlt, n⟩, fun v H2 y => ?_⟩
    obtain ⟨x, hx⟩ : ∃ x, xs[i]? = some x := ⟨_, List.getElem?_eq_getElem hlt⟩
    obtain ⟨B2, e3, s3, r3⟩ := wd.yields i B' _ M' H' v H2 x hx s2 e2 Ex.refl gm y
    refine step i x γ M' hx iv B2 F σ' H2 v (sl2.mono e3) s3 r3 _ fun Γ2 M2 h2 B3 σ3 H3 e4 sl3 s4 _ => ?_
    refine h2 B3 F σ3 H3 _ sl3 s4 ⟨fun Γ4 M4 h4 B4 σ4 H4 e5 sl4 s5 => ⟨B4, Γ4, M4, ((e2.trans e3).trans e4).trans e5, sl4, s5, h4⟩, (l.mono (((e1.trans e2).trans e3).trans e4)).rt, (l.mono (((e1.trans e2).trans e3).trans e4)).nx, fun Γ4 M4 h4 B4 σ4 H4 e5 sl4 s5 => ⟨B4, Γ4, M4, ((e2.trans e3).trans e4).trans e5, sl4, s5, h4⟩⟩
  · have ei : i = xs.length := by omega
    subst ei
    exact .inl ⟨wd.stops B' _ M' H' s2 e2 Ex.refl gm, l.nx _ _ (done γ M' iv) B' σ' H' (e1.trans e2) sl2 s2⟩
theorem s_while (I : Nat → Gam → Mem → Prop) (m0 : Nat) (h0 : I m0 Γ M) (h : ∀ m γ M, I m γ M → ET z tt γ M fun b M1 => (b = true → EVS z tu γ M1 ⟨fun γ' M' => ∃ m', m' < m ∧ I m' γ' M', E.rt, E.nx, fun γ' M' => ∃ m', m' < m ∧ I m' γ' M'⟩) ∧ (b = false → E.nx γ M1)) : EVS z (tWhile tt tu) Γ M E := by
  intro B F σ H D sl hs l
  refine ⟨fun m σ' H' => ∃ B' γ M', Ex B B' ∧ Slots z B' σ' γ ∧ Hs z B' F M' H' ∧ I m γ M', ⟨m0, B, Γ, M, Ex.refl, sl, hs, h0⟩, ?_⟩
  rintro m σ' H' ⟨B', γ, M', e1, sl1, s1, iv⟩
  refine h m γ M' iv B' F σ' H' sl1 s1 _ fun b M1 h1 B1 H1 e2 s2 => ?_
  cases b with
  | true =>
    refine iteT ⟨fun σ'' H'' => ∃ m', m' < m ∧ ∃ B' γ M', Ex B B' ∧ Slots z B' σ'' γ ∧ Hs z B' F M' H'' ∧ I m' γ M', fun σ'' H'' ⟨m', a, b⟩ => ⟨m', a, b⟩, ?_⟩
    exact h1.1 rfl B1 F σ' H1 _ (sl1.mono e2) s2 ⟨fun Γ4 M4 ⟨m', a, h4⟩ B4 σ4 H4 e5 sl4 s5 => ⟨m', a, B4, Γ4, M4, (e1.trans e2).trans e5, sl4, s5, h4⟩, (l.mono (e1.trans e2)).rt, (l.mono (e1.trans e2)).nx, fun Γ4 M4 ⟨m', a, h4⟩ B4 σ4 H4 e5 sl4 s5 => ⟨m', a, B4, Γ4, M4, (e1.trans e2).trans e5, sl4, s5, h4⟩⟩
  | false => exact iteF (l.nx _ _ (h1.2 rfl) B1 σ' H1 (e1.trans e2) (sl1.mono e2) s2)

/-! ### calls -/
/-- a def's work over data: arguments, memory, what is wanted -/
abbrev Fw := List D → Mem → (D → Mem → Prop) → Prop
def spD (z : Cz) (W : Fw) : Sp := fun vs H Q _ => ∃ B F M ds P, Rps z B ds vs ∧ Hs z B F M H ∧ W ds M P ∧ Fi z B F P Q
theorem ev_call {W : Fw} {t : TA} (h : EA z t Γ M fun ds M1 => W ds M1 P) : EV z (tCall (spD z W) [] E0 t) Γ M P := fun B F σ H sl hs Q q =>
  h B F σ H sl hs _ fun ds M1 h1 vs B1 H1 e1 r1 s1 => ⟨B1, F, M1, ds, P, by rw [List.append_nil]; exact r1, s1, h1, Fi.mono q e1⟩
theorem ev_meth {W : Fw} {t : TA} {C : Addr} {m : Str} (h : EV z ta Γ M fun d M1 => ∃ fs, ((∃ p, d = .ref p ∧ M1 p = some (.ins C fs)) ∨ d = .obj C fs) ∧ fs.lookup m = none ∧ EA z t Γ M1 fun ds M2 => W (d :: ds) M2 P) : EV z (tMeth C m (spD z W) [] E0 ta t) Γ M P := fun B F σ H sl hs Q q =>
  h B F σ H sl hs _ fun d M1 ⟨fs, hd, hl, h1⟩ v B1 H1 e1 r1 s1 => by
    have main : ∃ p dx ws, v = .ref p ∧ H1 p = some (.ins C dx ws) ∧ Rpf z B1 fs ws := by
      rcases hd with ⟨p, e2, hp⟩ | e2
      · subst e2
        obtain ⟨dx, ws, hw, t⟩ := cellI s1 hp
        exact ⟨p, dx, ws, r1.ref_inv, hw, t⟩
      · subst e2
        cases r1 with
        | obj hb r => exact ⟨_, _, _, rfl, s1.b _ _ hb, r⟩
    obtain ⟨p, dx, ws, ev, hw, t⟩ := main
    refine ⟨p, dx, ws, ev, hw, t.lookup_none hl, h1 B1 F σ H1 (sl.mono e1) s1 _ fun ds M2 h2 vs B2 H2 e2 r2 s2 => ⟨B2, F, M2, d :: ds, P, ?_, s2, h2, Fi.mono (Fi.mono q e1) e2⟩⟩
    rw [List.append_nil]
    exact .cons (r1.mono e2) r2
theorem ev_make {W : Fw} {t : TA} {C : Addr} (h : EA z t Γ M fun ds M1 => ∀ x, M1 x = none → W (.ref x :: ds) (mupd M1 x (.ins C [])) fun d M2 => d = .non ∧ P (.ref x) M2) : EV z (tMake C (spD z W) [] E0 t) Γ M P := fun B F σ H sl hs Q q =>
  h B F σ H sl hs _ fun ds M1 h1 vs B1 H1 e1 r1 s1 => by
    intro x dx hx hdx hne
    have s2 : Hs z B1 (upd F dx (.own x)) M1 (upd H1 dx (.own x)) := s1.newF hdx (fun ps e => by cases e)
    have hF : F dx = none := (s1.fresh hdx).2.1
    have s3 : Hs z B1 (upd F dx (.own x)) (mupd M1 x (.ins C [])) (upd (upd H1 dx (.own x)) x (.ins C dx [])) := s2.newM (by rw [upd_ne hne.symm]; exact hx) (.ins .nil)
    refine ⟨B1, _, _, .ref x :: ds, _, by rw [List.append_nil]; exact .cons (.ref x) r1, s3, h1 x (s1.fresh hx).2.2, fun d M2 ⟨ed, k⟩ v B2 H2 e2 r2 s4 => ⟨?_, ?_⟩⟩
    · subst ed
      exact r2.non_inv
    · refine q _ M2 k _ B2 H2 (e1.trans e2) (.ref x) ⟨s4.b, fun a o ha => ?_, s4.m, s4.nb, fun a ps ha => ?_, s4.tb⟩
      · exact s4.f a o (by rw [upd_ne (ne_of_none ha hF)]; exact ha)
      · exact s4.nf a ps (by rw [upd_ne (ne_of_none ha hF)]; exact ha)
end
def startG (N : List Str) (ds : List D) : Gam := ds.map some ++ List.replicate (N.length - ds.length) none
theorem slots_start {z : Cz} {B : Hp} {N : List Str} {ds : List D} {vs : List V} (r : Rps z B ds vs) : Slots z B (L2.start N vs) (startG N ds) := by
  unfold L2.start startG
  have hl := r.length
  refine ⟨by simp [hl], fun i d h => ?_⟩
  by_cases hi : i < ds.length
  · rw [List.getElem?_append_left (by simpa using hi), List.getElem?_map] at h
    rw [List.getElem?_append_left (by simpa [hl] using hi), List.getElem?_map]
    cases q : ds[i]? with
    | none => rw [q] at h; cases h
    | some e =>
      rw [q] at h
      cases h
      obtain ⟨v, hv, rv⟩ := r.get q
      exact ⟨v, by rw [hv]; rfl, rv⟩
  · rw [List.getElem?_append_right (by simpa using hi), List.getElem?_replicate] at h
    split at h <;> cases h
/-- THE RULE for a def over data -/
theorem okD {z : Cz} {mg : Str → Option Value} {base : Heap} {x qual : Str} {pa : Arguments} {bd : List Stmt} {sc : Scope} {f : Addr} {fd : FuncData} {N ps : List Str} {k : Nat} {W : Fw} (F : FunD z.K x qual pa bd sc [] [] f fd) (S : FnScope N ps sc)
    (len : ∀ ds M P, W ds M P → ds.length = ps.length)
    (hbody : ∀ (cdv : Value) (A : Around) (outer : List Env) (s : Shared) (H : Hp) (E : XK), Room k (A.deeper (envOfC qual sc s.heap.objs.size f cdv)) → ∀ ds M P, W ds M P →
      ∃ t, PSs (cxOf CX0 z.P z.w z.K mg base N qual sc f cdv A outer s H E).nox bd t ∧ EVS z t (startG N ds) M ⟨fun _ M' => P .non M', P, fun _ _ => False, fun _ _ => False⟩) : FnOk z.P z.w z.K mg base CX0 (k + 1) f fd ps (spD z W) := by
  refine F.ok S (fun vs H Q E ⟨B, Fr, M, ds, P, r, s, w, q⟩ => r.length.trans (len ds M P w)) fun cdv A outer s H vs Q E hr ⟨B, Fr, M, ds, P, r, hs, w, q⟩ => ?_
  obtain ⟨t, ht, hv⟩ := hbody cdv A outer s H E hr ds M P w
  exact ⟨t, ht.nox, hv B Fr _ H _ (slots_start r) hs ⟨fun Γ' M' p B' σ' H' e sl s' => q .non M' p .non B' H' e .non s', q, fun Γ' M' p => p.elim, fun Γ' M' p => p.elim⟩⟩
end Lv

set_option Elab.async false
set_option linter.all false
set_option maxRecDepth 100000
set_option maxHeartbeats 4000000
/-! Lay7: the defs of the text, calls by name, isinstance. -/
namespace Lv
open PySem PySem.Spec PyProof.Rows L2 StX

/-- the context's fixed part is z's -/
def XIs (z : Cz) (mg : Str → Option Value) (base : Heap) (X : Cx) : Prop := X.prog = z.P ∧ X.w = z.w ∧ X.K = z.K ∧ X.mg = mg ∧ X.base = base
/-- the def x keeps W, by at most k levels -/
def Has (z : Cz) (mg : Str → Option Value) (base : Heap) (x : Str) (ps : List Str) (k : Nat) (W : Fw) : Prop :=
  ∃ f fd, FnOk z.P z.w z.K mg base CX0 k f fd ps (spD z W) ∧ mg x = some (.ref f) ∧ PySem.W.keepIn z.K (.ref f) = true ∧ Binds z.K fd ps []
/-- the def x of the text stands behind the top -/
def Df (z : Cz) (mg : Str → Option Value) (x : Str) (st : Stmt) : Prop := ∃ f fd, FunD z.K x x (defArgs st) (defBody st) (defScope st) [] [] f fd ∧ mg x = some (.ref f)
theorem Has.mono {z : Cz} {mg : Str → Option Value} {base : Heap} {x : Str} {ps : List Str} {j k : Nat} {W : Fw} (h : Has z mg base x ps j W) (hk : j ≤ k) : Has z mg base x ps k W := by
  obtain ⟨f, fd, F, r⟩ := h
  exact ⟨f, fd, F.mono hk, r⟩
/-- a weaker promise -/
theorem Has.imp {z : Cz} {mg : Str → Option Value} {base : Heap} {x : Str} {ps : List Str} {k : Nat} {W W' : Fw} (h : Has z mg base x ps k W) (hw : ∀ ds M P, W' ds M P → W ds M P) : Has z mg base x ps k W' := by
  obtain ⟨f, fd, F, r⟩ := h
  exact ⟨f, fd, F.imp fun vs H Q E ⟨B, Fr, M, ds, P, a, b, c, d⟩ => ⟨B, Fr, M, ds, P, a, b, hw _ _ _ c, d⟩, r⟩
def okDf {z : Cz} {mg : Str → Option Value} {base : Heap} {x : Str} {st : Stmt} {N ps : List Str} {k : Nat} {W : Fw} (D : Df z mg x st) (S : FnScope N ps (defScope st))
    (hb : ∀ (kV doc pm : Value) (an : Option Addr) (cdv ct : Value) (us : List Value), us.length = ps.length → bindArgs (PySem.W.fnOf x x (defArgs st) (defBody st) (defScope st) .none kV doc pm an cdv ct) ⟨us, []⟩ = pure (ps.zip us))
    (len : ∀ ds M P, W ds M P → ds.length = ps.length)
    (hbody : ∀ (f : Addr) (cdv : Value) (A : Around) (outer : List Env) (s : Shared) (H : Hp) (E : XK), Room k (A.deeper (envOfC x (defScope st) s.heap.objs.size f cdv)) → ∀ ds M P, W ds M P →
      ∃ t, PSs (cxOf CX0 z.P z.w z.K mg base N x (defScope st) f cdv A outer s H E).nox (defBody st) t ∧ EVS z t (startG N ds) M ⟨fun _ M' => P .non M', P, fun _ _ => False, fun _ _ => False⟩) : Has z mg base x ps (k + 1) W := by
  obtain ⟨f, fd, F, m⟩ := D
  exact ⟨f, fd, okD F S len (hbody f), m, F.kp, F.bindsN hb⟩
/-- a method -/
def HasM (z : Cz) (mg : Str → Option Value) (base : Heap) (C : Addr) (m : Str) (ps : List Str) (k : Nat) (W : Fw) : Prop :=
  ∃ f fd, FnOk z.P z.w z.K mg base CX0 k f fd ps (spD z W) ∧ Meth z.K C m f ∧ Binds z.K fd ps []
/-- an __init__ -/
def HasI (z : Cz) (mg : Str → Option Value) (base : Heap) (C : Addr) (ps : List Str) (k : Nat) (W : Fw) : Prop :=
  ∃ f fd, FnOk z.P z.w z.K mg base CX0 k f fd ps (spD z W) ∧ Mk z.K C f ∧ Binds z.K fd ps []
section
variable {X : Cx} {z : Cz} {mg : Str → Option Value} {base : Heap} {x m : Str} {ps : List Str} {k : Nat} {W : Fw} {e o : Expr} {es : List Expr} {t : TA} {ta : TE} {p pos apos : Pos} {C : Addr}
theorem px_call (h : Has z mg base x ps k W) (hr : Room k X.A) (hg : Gl X x) (ha : PA X (e :: es) t) (hX : XIs z mg base X := by exact ⟨rfl, rfl, rfl, rfl, rfl⟩) (hdb : (x == ("__debug__" : Str)) = false := by decide)
    (he : starEach (e :: es) X.env = (false, eval e X.env) :: starEach es X.env := by rfl) (hpl : (backTo pos (starEach es X.env)).any (·.1) = false := by rfl) : PE X (.Call (.Name x p) (e :: es) [] pos) (tCall (spD z W) [] E0 t) := by
  obtain ⟨f, fd, F, m, kp, b⟩ := h
  obtain ⟨h1, h2, h3, h4, h5⟩ := hX
  rw [← h1, ← h2, ← h3, ← h4, ← h5] at F
  rw [← h4] at m
  rw [← h3] at kp b
  exact pe_call F hr hg m kp b .nil pass0 ha hdb he hpl
theorem px_meth {pl : Sem Bool} (c : Cls z.K C) (h : HasM z mg base C m ps k W) (hr : Room k X.A) (ho : PE X o ta) (ha : PA X (e :: es) t) (hX : XIs z mg base X := by exact ⟨rfl, rfl, rfl, rfl, rfl⟩)
    (hst : starEach (e :: es) X.env = (false, eval e X.env) :: starEach es X.env := by rfl) (hpl : (backTo pos (starEach es X.env)).any (·.1) = false := by rfl)
    (he : eval (.Call (.Attribute o m apos) (e :: es) [] pos) X.env = (do
      let ov ← eval o X.env
      standAt apos.atName
      let (f, first) ← holding [ov] (getMethod ov m pl)
      callWith pos f first (backTo pos (starEach (e :: es) X.env)) (backToKw pos (keywordEach [] X.env))) := by rfl) : PE X (.Call (.Attribute o m apos) (e :: es) [] pos) (tMeth C m (spD z W) [] E0 ta t) := by
  obtain ⟨f, fd, F, m, b⟩ := h
  obtain ⟨h1, h2, h3, h4, h5⟩ := hX
  rw [← h1, ← h2, ← h3, ← h4, ← h5] at F
  rw [← h3] at m b c
  exact pe_meth ho c m F hr b .nil pass0 ha hst hpl he
theorem px_make (h : HasI z mg base C ps k W) (hm : mg x = some (.ref C)) (hr : Room (k + 1) X.A) (hg : Gl X x) (ha : PA X (e :: es) t) (hX : XIs z mg base X := by exact ⟨rfl, rfl, rfl, rfl, rfl⟩) (hdb : (x == ("__debug__" : Str)) = false := by decide)
    (he : starEach (e :: es) X.env = (false, eval e X.env) :: starEach es X.env := by rfl) (hpl : (backTo pos (starEach es X.env)).any (·.1) = false := by rfl) : PE X (.Call (.Name x p) (e :: es) [] pos) (tMake C (spD z W) [] E0 t) := by
  obtain ⟨f, fd, F, m, b⟩ := h
  obtain ⟨h1, h2, h3, h4, h5⟩ := hX
  rw [← h1, ← h2, ← h3, ← h4, ← h5] at F
  rw [← h3] at m b
  rw [← h4] at hm
  exact pe_make m F hr hg hm b .nil pass0 ha hdb he hpl
/-! the module's constants -/
theorem px_gstr {s : Str} (h : ∃ t, X.mg x = some (.str s t)) (hg : Gl X x) (hd : (x == ("__debug__" : Str)) = false := by decide) : PE X (.Name x pos) (tC (.str s)) := by
  obtain ⟨t, h⟩ := h
  exact pe_glob hg h ⟨t, rfl⟩ hd
theorem px_gint {i : Int} (h : ∃ t, X.mg x = some (.int i t)) (hg : Gl X x) (hd : (x == ("__debug__" : Str)) = false := by decide) : PE X (.Name x pos) (tC (.int i)) := by
  obtain ⟨t, h⟩ := h
  exact pe_glob hg h ⟨t, rfl⟩ hd
theorem px_ty {n : String} (hm : X.mg x = none) (hv : bootBuiltins x = some (.type n)) (hg : Gl X x) (hn : x ≠ "__name__" := by decide) (hd : (x == ("__debug__" : Str)) = false := by decide) : PE X (.Name x pos) (tC (.ty n)) := pe_bltn hg hm hv rfl hn hd
theorem px_cls (hm : X.mg x = some (.ref C)) (hg : Gl X x) (hd : (x == ("__debug__" : Str)) = false := by decide) : PE X (.Name x pos) (tC (.ref C)) := pe_glob hg hm rfl hd
end
/-! ### rules of the layer at z's written part -/
section
variable {X : Cx} (z : Cz) {a b : Expr} {ta tb te : TE} {pos : Pos} {es : List Expr} {t : TA} {x : Str} {k : Nat}
theorem zo_eq (hr : Room k X.A) (hK : X.K = z.K := by rfl) : OpR X (compareOp .Eq) (rEqU z.K) := by rw [← hK]; exact ox_eq hr
theorem zo_ne (hr : Room k X.A) (hK : X.K = z.K := by rfl) : OpR X (compareOp .NotEq) (rNeU z.K) := by rw [← hK]; exact ox_ne hr
theorem zo_in (hK : X.K = z.K := by rfl) : OpR X (compareOp .In) (rInG z.K) := by rw [← hK]; exact ox_in
theorem zo_notIn (hK : X.K = z.K := by rfl) : OpR X (compareOp .NotIn) (rNotInG z.K) := by rw [← hK]; exact ox_notIn
theorem zx_ix (ha : PE X a ta) (hb : PE X b tb) (hK : X.K = z.K := by rfl) (hs : PlainIx b := by exact fun _ _ => rfl) : PE X (.Subscript a b pos) (tOp (rIxU z.K) ta tb) := by rw [← hK]; exact pe_ix ox_ix ha hb hs
theorem zc_len (hK : X.K = z.K := by rfl) : CallR X (.builtin "len") (rLenU z.K) := by rw [← hK]; exact cx_len
theorem zc_max (hc : X.calm = true := by rfl) (hK : X.K = z.K := by rfl) : CallR X (.builtin "max") (rMaxU z.K) := by rw [← hK]; exact cx_max hc
theorem zc_sum (hc : X.calm = true := by rfl) (hK : X.K = z.K := by rfl) : CallR X (.builtin "sum") (rSumU z.K) := by rw [← hK]; exact cx_sum hc
theorem zc_all (hc : X.calm = true := by rfl) (hK : X.K = z.K := by rfl) : CallR X (.builtin "all") (rAllU z.K) := by rw [← hK]; exact cx_all hc
theorem zc_sorted (hK : X.K = z.K := by rfl) : CallR X (.builtin "sorted") (rSrtU z.K) := by rw [← hK]; exact cx_sorted
theorem zc_list (hc : X.calm = true := by rfl) (hK : X.K = z.K := by rfl) : CallR X (.type "list") (rLstU z.K) := by rw [← hK]; exact cx_list hc
theorem zc_tuple (hK : X.K = z.K := by rfl) : CallR X (.type "tuple") (rTupU z.K) := by rw [← hK]; exact cx_tuple
theorem zc_isi (hK : X.K = z.K := by rfl) : CallR X (.builtin "isinstance") (rIsi z.K) := by rw [← hK]; exact call_isi
theorem zc_isiT (hK : X.K = z.K := by rfl) : CallR X (.builtin "isinstance") (rIsiT z.K) := by rw [← hK]; exact call_isiT
theorem zx_fld {f : Str} {e : Expr} (he : PE X e te) (hb : attributeBase e f X.env (eval e X.env) = eval e X.env := by rfl) (hK : X.K = z.K := by rfl) : PE X (.Attribute e f pos) (tFld z.K te f) := by rw [← hK]; exact pe_fld he hb
theorem za_star {e : Expr} {p : Pos} (he : PE X e te) (hr : PA X es t) (hK : X.K = z.K := by rfl) (hs : starEach (.Starred e p :: es) X.env = (true, eval e X.env) :: starEach es X.env := by rfl) : PA X (.Starred e p :: es) (tStar z.K te t) := by rw [← hK]; exact pa_star he hr hs
theorem zi_seq {tg l : Expr} (hl : PE X l te) (hK : X.K = z.K := by rfl) : PI X tg l (iSeqU z.K te) := by rw [← hK]; exact pi_seqU hl
theorem zi_enum {e : Expr} {p tpos : Pos} {elts : List Expr} {kk : Nat} (hm : X.mg "enumerate" = none) (ha : PA X [e] t) (hg : Gl X "enumerate" := by rfl) (hK : X.K = z.K := by rfl) (hs : starEach [e] X.env = [(false, eval e X.env)] := by rfl) :
    PI X (.Tuple elts kk tpos) (.Call (.Name "enumerate" p) [e] [] pos) (iEnumU z.K t) := by rw [← hK]; exact pi_enumU hg hm ha hs
theorem zg_tup {k n : Nat} {gs : TGs} (h : PGs X es gs) (hc : X.calm = true := by rfl) (hK : X.K = z.K := by rfl) (hn : (assignEach es X.env).length = n := by rfl) (hst : (assignEach es X.env).findIdx? (·.1) = none := by rfl) : PG X (.Tuple es k pos) (gTup z.K n gs) := by rw [← hK]; exact pg_tup hc h hn hst
theorem zg_unl {k n : Nat} {gs : TGs} (h : PGs X es gs) (hc : X.calm = true := by rfl) (hK : X.K = z.K := by rfl) (hn : (assignEach es X.env).length = n := by rfl) (hst : (assignEach es X.env).findIdx? (·.1) = none := by rfl) : PG X (.Tuple es k pos) (gUnl z.K n gs) := by rw [← hK]; exact pg_unl hc h hn hst
theorem zs_fld {f : Str} {o e : Expr} {p' : Pos} (ho : PE X o ta) (he : PE X e te) (hs : swapsWith e (some (.Attribute o f p')) pos.line X.env = pure false := by rfl) (hK : X.K = z.K := by rfl) : PS X (.Assign [.Attribute o f p'] e pos) (sFld z.K ta te f) := by rw [← hK]; exact ps_fld ho he hs
theorem zx_slice {e : Expr} {lo hi : Option Expr} {tl th : TO} {p2 : Pos} (he : PE X e te) (hl : PO X lo tl) (hu : PO X hi th) (hK : X.K = z.K := by rfl) : PE X (.Subscript e (.Slice lo hi none p2) pos) (tSl (rSlU z.K) te tl th) := by rw [← hK]; exact pe_slice sx_list he hl hu
theorem zx_rev {e : Expr} {k : Nat} {p1 p2 p3 : Pos} (he : PE X e te) (hK : X.K = z.K := by rfl) : PE X (.Subscript e (.Slice none none (some (.UnaryOp .USub (.Constant (.int 1) k p1) p2)) p3) pos) (tRevL z.K te) := by rw [← hK]; exact pe_revL he
theorem zx_bm {T id : String} {name : Str} {o e : Expr} {apos : Pos} {r : V → List V → Hp → VK → Prop} (pa : PlainAttrs T) (slot : Slot T name id) (hty : typeOf (.builtin id) = pure (.type "method_descriptor")) (hm : MtR X id r) (ho : PE X o ta) (ha : PA X (e :: es) t) (hK : X.K = z.K := by rfl)
    (hbase : attributeBase o name X.env (eval o X.env) = eval o X.env := by rfl)
    (hfew : ((backTo pos (starEach (e :: es) X.env)).all (fun x => !x.1) && (backToKw pos (keywordEach [] X.env)).all (fun x => x.1.isSome)
      && decide ((e :: es).length + ([] : List Keyword).length + (if ([] : List Keyword).isEmpty then 0 else 1) < 30)) = true := by rfl)
    (hline : (apos.endLine == pos.line) = true := by rfl) (hs : starEach (e :: es) X.env = (false, eval e X.env) :: starEach es X.env := by rfl) (hplain : (backTo pos (starEach es X.env)).any (·.1) = false := by rfl) :
    PE X (.Call (.Attribute o name apos) (e :: es) [] pos) (tBM z.K T r ta t) := by rw [← hK]; exact pe_bm pa slot hty hm ho ha hbase hfew hline hs hplain
end
theorem xm_append {X : Cx} : MtR X "list.append" rAppU := mt_append
theorem xm_extend {X : Cx} : MtR X "list.extend" rExtU := mt_extend
theorem xm_popAt {X : Cx} : MtR X "list.pop" rPopU := mt_popAt
theorem xm_index (z : Cz) {X : Cx} (hK : X.K = z.K := by rfl) : MtR X "list.index" (rIdxU z.K) := by rw [← hK]; exact mt_index
/-! ### isinstance -/
def tyD : D → Option String
  | .non => some "NoneType"
  | .bl _ => some "bool"
  | .int _ => some "int"
  | .str _ => some "str"
  | .sq true _ => some "list"
  | .sq false _ => some "tuple"
  | _ => none
theorem tyD_ok {z : Cz} {B F : Hp} {M : Mem} {H : Hp} {d : D} {v : V} {n : String} (r : Rp z B d v) (s : Hs z B F M H) (h : tyD d = some n) : TyX z.K H v (.type n) := by
  cases r with
  | non => cases h; exact .base .non
  | bl b => cases h; exact .base (.bl b)
  | int b => cases h; exact .base (.int b)
  | str b => cases h; exact .base (.str b)
  | @sq k ds p vs hb hl rs =>
    cases k with
    | true => cases h; exact .base (.lst (s.b _ _ hb))
    | false => cases h; exact .base (.tup (s.b _ _ hb))
  | ref => cases h
  | obj => cases h
  | scr => cases h
  | nd => cases h
section
variable {z : Cz} {Γ : Gam} {M : Mem} {te : TE} {P : D → Mem → Prop}
theorem ev_isi {n : String} (h : EV z te Γ M fun d M1 => ∃ c b, tyD d = some c ∧ kitB c n = some b ∧ P (.bl b) M1) : EV z (tCB (rIsi z.K) (tCons te (tCons (tC (.ty n)) tNil))) Γ M P := fun B F σ H sl hs Q q =>
  h B F σ H sl hs _ fun d M1 ⟨c, b, h1, h2, k⟩ v B1 H1 e1 r1 s1 => ⟨v, .ty n, .type c, .type n, b, rfl, .ty n, tyD_ok r1 s1 h1, kit_ty h2, q _ M1 k _ B1 H1 e1 (.bl b) s1⟩
theorem ev_isiLT (h : EV z te Γ M fun d M1 => ∃ k ds, d = .sq k ds ∧ P (.bl true) M1) : EV z (tCB (rIsiT z.K) (tCons te (tCons (tTup (tCons (tC (.ty "list")) (tCons (tC (.ty "tuple")) tNil))) tNil))) Γ M P := fun B F σ H sl hs Q q =>
  h B F σ H sl hs _ fun d M1 ⟨c, ds, e, k⟩ v B1 H1 e1 r1 s1 => by
    refine ⟨by show 2 ≤ sizeLine; decide, fun p hp => ?_⟩
    have s2 := s1.newF (o := .tup [.ty "list", .ty "tuple"]) hp (fun ps e => by cases e)
    have hF := (s1.fresh hp).2.1
    have fin : Q (.bl true) (upd H1 p (.tup [.ty "list", .ty "tuple"])) := q _ M1 k _ B1 _ e1 (.bl true) ⟨s2.b, (fun a o ha => s2.f a o (by rw [upd_ne (ne_of_none ha hF)]; exact ha)), s2.m, s2.nb, (fun a ps ha => s2.nf a ps (by rw [upd_ne (ne_of_none ha hF)]; exact ha)), s2.tb⟩
    subst e
    cases c with
    | true => exact ⟨v, p, _, .type "list", _, true, rfl, upd_same, .cons (.ty _) (.cons (.ty _) .nil), tyD_ok r1 s2 rfl, kitAny_cons (b := true) (kit_ty (by decide +kernel)) (fun h => nomatch h) (fun _ => rfl), fin⟩
    | false => exact ⟨v, p, _, .type "tuple", _, true, rfl, upd_same, .cons (.ty _) (.cons (.ty _) .nil), tyD_ok r1 s2 rfl, kitAny_cons (b := false) (kit_ty (by decide +kernel)) (fun _ => kitAny_cons (b := true) (kit_ty (by decide +kernel)) (fun h => nomatch h) (fun _ => rfl)) (fun h => nomatch h), fin⟩
theorem ev_ref {a : Addr} (k : P (.ref a) M) : EV z (tC (.ref a)) Γ M P := fun B F σ H sl hs Q q => q _ M k _ B H Ex.refl (.ref a) hs
/-- isinstance(o, C), o an instance of C -/
structure InsF (K : PySem.W.Frag) (C : Addr) : Prop where
  cl : Cls K C
  ha : PySem.W.findIn K (.ref C) "__class__" = some (some (.builtin "object.__class__"))
  hn : PySem.W.specialIn K (.builtin "object.__class__") "__get__" = some (some (.builtin "getset_descriptor.__get__"))
  ht : PySem.W.takesIn K (.builtin "object.__class__") = some true
  hm : PySem.W.mroIn K C (.type "object") = some true
  hk : PySem.W.kitOne K (.ref C) (.ref C) = some true
theorem ev_isiC {C : Addr} (i : InsF z.K C) (h : EV z te Γ M fun d M1 => ∃ fs, d = .obj C fs ∧ P (.bl true) M1) : EV z (tCB (rIsi z.K) (tCons te (tCons (tC (.ref C)) tNil))) Γ M P := fun B F σ H sl hs Q q =>
  h B F σ H sl hs _ fun d M1 ⟨fs, e, k⟩ v B1 H1 e1 r1 s1 => by
    subst e
    cases r1 with
    | obj hb r => exact ⟨_, .ref C, .ref C, .ref C, true, rfl, .own C, .base (.ins (s1.b _ _ hb) i.cl i.ha i.hn i.ht i.hm), i.hk, q _ M1 k _ B1 H1 e1 (.bl true) s1⟩
end
theorem kb_ii : kitB "int" "int" = some true := by decide +kernel
theorem kb_ib : kitB "int" "bool" = some false := by decide +kernel
theorem kb_is : kitB "int" "str" = some false := by decide +kernel
theorem kb_ss : kitB "str" "str" = some true := by decide +kernel
theorem kb_tt : kitB "tuple" "tuple" = some true := by decide +kernel
theorem boot_str2 : bootBuiltins "str" = some (.type "str") := by decide +kernel
theorem boot_bool2 : bootBuiltins "bool" = some (.type "bool") := by decide +kernel

/-- the module's names -/
structure Gf (z : Cz) (mg : Str → Option Value) (CF CT : Addr) : Prop where
  len : mg "len" = none
  isinstance : mg "isinstance" = none
  int : mg "int" = none
  bool : mg "bool" = none
  str : mg "str" = none
  list : mg "list" = none
  tuple : mg "tuple" = none
  all : mg "all" = none
  sorted : mg "sorted" = none
  max : mg "max" = none
  min : mg "min" = none
  sum : mg "sum" = none
  range : mg "range" = none
  enumerate : mg "enumerate" = none
  letters : ∃ t, mg "LETTERS" = some (.str "abcdefghijklmnopqrstuvwxyz" t)
  mletters : ∃ t, mg "MOST_LETTERS" = some (.int 8 t)
  mnodes : ∃ t, mg "MOST_NODES" = some (.int 400 t)
  mbinders : ∃ t, mg "MOST_BINDERS" = some (.int 60 t)
  mdeep : ∃ t, mg "MOST_DEEP" = some (.int 100 t)
  mweight : ∃ t, mg "MOST_WEIGHT" = some (.int 1000 t)
  flat : mg "Flat" = some (.ref CF)
  term : mg "Term" = some (.ref CT)
  cF : Cls z.K CF
  cT : Cls z.K CT
  iT : InsF z.K CT
  nF : ∀ f ∈ (["nodes", "around", "binder_nodes", "use_nodes"] : List Str), NoAttr z.K CF f
  nT : ∀ f ∈ (["own_tree", "own_nodes", "own_around", "binder_nodes", "use_nodes", "own_names", "use_around", "own_meaning"] : List Str), NoAttr z.K CT f
end Lv

set_option Elab.async false
set_option linter.all false
set_option maxRecDepth 100000
set_option maxHeartbeats 4000000
/-! Lay8: small steps at known shapes, the tactic that walks by them. -/
namespace Lv
open PySem PySem.Spec PyProof.Rows L2 StX

theorem g_bl {b : Bool} {P : Bool → Prop} (h : P b) : ∃ c, D.bl b = .bl c ∧ P c := ⟨b, rfl, h⟩
theorem g_int {b : Int} {P : Int → Prop} (h : P b) : ∃ c, D.int b = .int c ∧ P c := ⟨b, rfl, h⟩
theorem g_int2 {i j : Int} {k : Int → Int → Prop} (h : k i j) : int2 (.int i) (.int j) k := ⟨i, j, rfl, rfl, h⟩
theorem g_neg {i : Int} {Q : Int → Prop} (h : Q i) : ∃ j, D.int i = .int j ∧ Q j := ⟨i, rfl, h⟩
theorem g_addI {i j : Int} {P : D → Mem → Prop} {M : Mem} (h : P (.int (i + j)) M) : pAdd (.int i) (.int j) M P := .inl ⟨i, j, rfl, rfl, h⟩
theorem g_addS {i j : Str} {P : D → Mem → Prop} {M : Mem} (hl : i.length + j.length ≤ sizeLine) (h : P (.str (i ++ j)) M) : pAdd (.str i) (.str j) M P := .inr (.inl ⟨i, j, rfl, rfl, hl, h⟩)
theorem g_addL {xs ys : List D} {P : D → Mem → Prop} {M : Mem} (hl : (xs ++ ys).length ≤ sizeLine) (h : P (.sq true (xs ++ ys)) M) : pAdd (.sq true xs) (.sq true ys) M P := .inr (.inr ⟨xs, ys, .inl rfl, .inl rfl, hl, .inl h⟩)
theorem g_eqI {i j : Int} {P : Bool → Prop} (h : P (decide (i = j))) : ∃ c, EqIs (.int i) (.int j) c ∧ P c := ⟨_, .sc rfl rfl rfl (by
  show decide (V.int i = V.int j) = decide (i = j)
  by_cases e : i = j
  · subst e; simp
  · rw [decide_eq_false e, decide_eq_false (fun q => e (V.int.inj q))]), h⟩
theorem g_eqS {i j : Str} {P : Bool → Prop} (h : P (decide (i = j))) : ∃ c, EqIs (.str i) (.str j) c ∧ P c := ⟨_, .sc rfl rfl rfl (by
  show decide (V.str i = V.str j) = decide (i = j)
  by_cases e : i = j
  · subst e; simp
  · rw [decide_eq_false e, decide_eq_false (fun q => e (V.str.inj q))]), h⟩
theorem g_eqIS {i : Int} {j : Str} {P : Bool → Prop} (h : P false) : ∃ c, EqIs (.int i) (.str j) c ∧ P c := ⟨_, .sc rfl rfl rfl (by
  show decide (V.int i = V.str j) = false
  exact decide_eq_false (fun q => by cases q)), h⟩
theorem g_eqSI {i : Int} {j : Str} {P : Bool → Prop} (h : P false) : ∃ c, EqIs (.str j) (.int i) c ∧ P c := ⟨_, .sc rfl rfl rfl (by
  show decide (V.str j = V.int i) = false
  exact decide_eq_false (fun q => by cases q)), h⟩
theorem g_eqNS {j : Str} {P : Bool → Prop} (h : P false) : ∃ c, EqIs .non (.str j) c ∧ P c := ⟨_, .sc rfl rfl rfl (by
  show decide (V.non = V.str j) = false
  exact decide_eq_false (fun q => by cases q)), h⟩
theorem g_isn {p : Prop} (h : p) : D.non = .non ∧ p := ⟨rfl, h⟩
theorem g_ixQ {k : Bool} {ds : List D} {d : D} {i : Int} {Q : D → Prop} {Q' : Nat → Prop} {M : Mem} (h : atI ds i = some d) (q : Q d) :
    ∃ j, D.int i = .int j ∧ ((∃ es d, IsS M (.sq k ds) es ∧ atI es j = some d ∧ Q d) ∨ ∃ (w : Str) (c : Nat), D.sq k ds = .str w ∧ w.length ≤ sizeLine ∧ atI w.cps.toList j = some c ∧ Q' c) :=
  ⟨i, rfl, .inl ⟨ds, d, .inl ⟨k, rfl⟩, h, q⟩⟩
theorem g_ixR {p : Addr} {ds : List D} {d : D} {i : Int} {Q : D → Prop} {Q' : Nat → Prop} {M : Mem} (hp : M p = some (.lst ds)) (h : atI ds i = some d) (q : Q d) :
    ∃ j, D.int i = .int j ∧ ((∃ es d, IsS M (.ref p) es ∧ atI es j = some d ∧ Q d) ∨ ∃ (w : Str) (c : Nat), D.ref p = .str w ∧ w.length ≤ sizeLine ∧ atI w.cps.toList j = some c ∧ Q' c) :=
  ⟨i, rfl, .inl ⟨ds, d, .inr (.inl ⟨p, rfl, hp⟩), h, q⟩⟩
theorem g_ixW {w : Str} {c : Nat} {i : Int} {Q : D → Prop} {Q' : Nat → Prop} {M : Mem} (hw : w.length ≤ sizeLine) (h : atI w.cps.toList i = some c) (q : Q' c) :
    ∃ j, D.int i = .int j ∧ ((∃ es d, IsS M (.str w) es ∧ atI es j = some d ∧ Q d) ∨ ∃ (u : Str) (c : Nat), D.str w = .str u ∧ u.length ≤ sizeLine ∧ atI u.cps.toList j = some c ∧ Q' c) :=
  ⟨i, rfl, .inr ⟨w, c, rfl, hw, h, q⟩⟩
theorem g_lenQ {k : Bool} {ds : List D} {Q : Int → Prop} {M : Mem} (q : Q ds.length) : (∃ d es, [D.sq k ds] = [d] ∧ IsS M d es ∧ Q es.length) ∨ ∃ w, [D.sq k ds] = [.str w] ∧ w.length ≤ sizeLine ∧ Q w.length := .inl ⟨_, ds, rfl, .inl ⟨k, rfl⟩, q⟩
theorem g_lenR {p : Addr} {ds : List D} {Q : Int → Prop} {M : Mem} (hp : M p = some (.lst ds)) (q : Q ds.length) : (∃ d es, [D.ref p] = [d] ∧ IsS M d es ∧ Q es.length) ∨ ∃ w, [D.ref p] = [.str w] ∧ w.length ≤ sizeLine ∧ Q w.length := .inl ⟨_, ds, rfl, .inr (.inl ⟨p, rfl, hp⟩), q⟩
theorem g_lenS {w : Str} {Q : Int → Prop} {M : Mem} (hw : w.length ≤ sizeLine) (q : Q w.length) : (∃ d es, [D.str w] = [d] ∧ IsS M d es ∧ Q es.length) ∨ ∃ u, [D.str w] = [.str u] ∧ u.length ≤ sizeLine ∧ Q u.length := .inr ⟨w, rfl, hw, q⟩
theorem g_isi {d : D} {n c : String} {b : Bool} {Q : Bool → Prop} {M : Mem} (h1 : tyD d = some c) (h2 : kitB c n = some b) (q : Q b) : ∃ c b, tyD d = some c ∧ kitB c n = some b ∧ Q b := ⟨c, b, h1, h2, q⟩
theorem kb_bi : kitB "bool" "int" = some true := by decide +kernel
theorem kb_bb : kitB "bool" "bool" = some true := by decide +kernel
theorem kb_si : kitB "str" "int" = some false := by decide +kernel
theorem kb_st : kitB "str" "tuple" = some false := by decide +kernel
theorem g_isiII {i : Int} {Q : Bool → Prop} {M : Mem} (q : Q true) : ∃ c b, tyD (.int i) = some c ∧ kitB c "int" = some b ∧ Q b := ⟨_, _, rfl, kb_ii, q⟩
theorem g_isiIB {i : Int} {Q : Bool → Prop} {M : Mem} (q : Q false) : ∃ c b, tyD (.int i) = some c ∧ kitB c "bool" = some b ∧ Q b := ⟨_, _, rfl, kb_ib, q⟩
theorem g_isiIS {i : Int} {Q : Bool → Prop} {M : Mem} (q : Q false) : ∃ c b, tyD (.int i) = some c ∧ kitB c "str" = some b ∧ Q b := ⟨_, _, rfl, kb_is, q⟩
theorem g_isiSS {i : Str} {Q : Bool → Prop} {M : Mem} (q : Q true) : ∃ c b, tyD (.str i) = some c ∧ kitB c "str" = some b ∧ Q b := ⟨_, _, rfl, kb_ss, q⟩
theorem g_isiTT {i : List D} {Q : Bool → Prop} {M : Mem} (q : Q true) : ∃ c b, tyD (.sq false i) = some c ∧ kitB c "tuple" = some b ∧ Q b := ⟨_, _, rfl, kb_tt, q⟩
theorem g_lt {α : Prop} (h : α) : (true = true → α) ∧ (true = false → True) := ⟨fun _ => h, fun _ => trivial⟩
theorem g_ifT {α β : Prop} (h : α) : (true = true → α) ∧ (true = false → β) := ⟨fun _ => h, fun q => nomatch q⟩
theorem g_ifF {α β : Prop} (h : β) : (false = true → α) ∧ (false = false → β) := ⟨(fun q => nomatch q), fun _ => h⟩
theorem g_ifNT {α β : Prop} (h : β) : ((!true) = true → α) ∧ ((!true) = false → β) := ⟨(fun q => nomatch q), fun _ => h⟩
theorem g_ifNF {α β : Prop} (h : α) : ((!false) = true → α) ∧ ((!false) = false → β) := ⟨fun _ => h, (fun q => nomatch q)⟩
theorem g_ifD {p : Prop} [Decidable p] {α β : Prop} (h1 : p → α) (h2 : ¬ p → β) : (decide p = true → α) ∧ (decide p = false → β) := ⟨fun q => h1 (of_decide_eq_true q), fun q => h2 (of_decide_eq_false q)⟩
theorem g_ifDN {p : Prop} [Decidable p] {α β : Prop} (h1 : ¬ p → α) (h2 : p → β) : ((!decide p) = true → α) ∧ ((!decide p) = false → β) := ⟨fun q => h1 (by simpa using q), fun q => h2 (by simpa using q)⟩
theorem g_intI {i : Int} {Q : Int → Prop} {M : Mem} (q : Q i) : (∃ j, [D.int i] = [.int j] ∧ Q j) ∨ ∃ k, [D.int i] = [.bl k] ∧ Q (if k then 1 else 0) := .inl ⟨i, rfl, q⟩
theorem g_intB {i : Bool} {Q : Int → Prop} {M : Mem} (q : Q (if i then 1 else 0)) : (∃ j, [D.bl i] = [.int j] ∧ Q j) ∨ ∃ k, [D.bl i] = [.bl k] ∧ Q (if k then 1 else 0) := .inr ⟨i, rfl, q⟩
theorem g_par {a b : D} {P : D → D → Prop} (h : P a b) : ∃ c d, [a, b] = [c, d] ∧ P c d := ⟨a, b, rfl, h⟩
theorem g_par3 {a b c : D} {P : D → D → D → Prop} (h : P a b c) : ∃ x y z, [a, b, c] = [x, y, z] ∧ P x y z := ⟨a, b, c, rfl, h⟩
theorem g_max2 {i j : Int} {Q : Int → Prop} {M : Mem} (q : Q (max i j)) : (∃ a b, [D.int i, D.int j] = [.int a, .int b] ∧ Q (if b > a then b else a)) ∨ ∃ (d : D) (ns : List Int), [D.int i, D.int j] = [d] ∧ IsL M d (ns.map D.int) ∧ 0 < ns.length ∧ ∀ m, m ∈ ns → (∀ y, y ∈ ns → y ≤ m) → Q m := .inl ⟨i, j, rfl, by
  have e : (if j > i then j else i) = max i j := by split <;> omega
  rw [e]
  exact q⟩
theorem g_min2 {i j : Int} {Q : Int → Prop} {M : Mem} (q : Q (min i j)) : ∃ a b, [D.int i, D.int j] = [.int a, .int b] ∧ Q (if b < a then b else a) := ⟨i, j, rfl, by
  have e : (if j < i then j else i) = min i j := by split <;> omega
  rw [e]
  exact q⟩
theorem g_listQ {k : Bool} {ds : List D} {P : D → Mem → Prop} {M : Mem} (n : NewL ds M P) : (∃ d es, [D.sq k ds] = [d] ∧ IsS M d es ∧ NewL es M P) ∨ (∃ p kvs, [D.sq k ds] = [.ref p] ∧ M p = some (.dK kvs) ∧ NewL (kvs.map fun e => kD e.1) M P) ∨ ∃ w : Str, [D.sq k ds] = [.str w] ∧ NewL (signs w) M P := .inl ⟨_, ds, rfl, .inl ⟨k, rfl⟩, n⟩
theorem g_listR {p : Addr} {ds : List D} {P : D → Mem → Prop} {M : Mem} (hp : M p = some (.lst ds)) (n : NewL ds M P) : (∃ d es, [D.ref p] = [d] ∧ IsS M d es ∧ NewL es M P) ∨ (∃ q kvs, [D.ref p] = [.ref q] ∧ M q = some (.dK kvs) ∧ NewL (kvs.map fun e => kD e.1) M P) ∨ ∃ w : Str, [D.ref p] = [.str w] ∧ NewL (signs w) M P := .inl ⟨_, ds, rfl, .inr (.inl ⟨p, rfl, hp⟩), n⟩
theorem g_listK {p : Addr} {kvs : List (Key × D)} {P : D → Mem → Prop} {M : Mem} (hp : M p = some (.dK kvs)) (n : NewL (kvs.map fun e => kD e.1) M P) : (∃ d es, [D.ref p] = [d] ∧ IsS M d es ∧ NewL es M P) ∨ (∃ q kvs, [D.ref p] = [.ref q] ∧ M q = some (.dK kvs) ∧ NewL (kvs.map fun e => kD e.1) M P) ∨ ∃ w : Str, [D.ref p] = [.str w] ∧ NewL (signs w) M P := .inr (.inl ⟨p, kvs, rfl, hp, n⟩)
theorem g_listS {w : Str} {P : D → Mem → Prop} {M : Mem} (n : NewL (signs w) M P) : (∃ d es, [D.str w] = [d] ∧ IsS M d es ∧ NewL es M P) ∨ (∃ q kvs, [D.str w] = [.ref q] ∧ M q = some (.dK kvs) ∧ NewL (kvs.map fun e => kD e.1) M P) ∨ ∃ u : Str, [D.str w] = [.str u] ∧ NewL (signs u) M P := .inr (.inr ⟨w, rfl, n⟩)
theorem g_sum {ns : List Int} {Q : Int → Prop} {M : Mem} (q : Q ns.sum) : ∃ (d : D) (ms : List Int), [D.sq true (ns.map D.int)] = [d] ∧ IsL M d (ms.map D.int) ∧ Q ms.sum := ⟨_, ns, rfl, .inl rfl, q⟩
theorem g_all {bs : List Bool} {Q : Bool → Prop} {M : Mem} (q : Q (bs.all id)) : ∃ (d : D) (ms : List Bool), [D.sq true (bs.map D.bl)] = [d] ∧ IsL M d (ms.map D.bl) ∧ Q (ms.all id) := ⟨_, bs, rfl, .inl rfl, q⟩
theorem g_tuple {ds : List D} {P : D → Mem → Prop} {M : Mem} (n : NewT ds M P) : ∃ d es, [D.sq true ds] = [d] ∧ IsL M d es ∧ NewT es M P := ⟨_, ds, rfl, .inl rfl, n⟩
theorem g_tupleR {p : Addr} {ds : List D} {P : D → Mem → Prop} {M : Mem} (hp : M p = some (.lst ds)) (n : NewT ds M P) : ∃ d es, [D.ref p] = [d] ∧ IsL M d es ∧ NewT es M P := ⟨_, ds, rfl, .inr ⟨p, rfl, hp⟩, n⟩
theorem g_star {k : Bool} {ds : List D} {P : List D → Prop} (q : P ds) : ∃ k' es, D.sq k ds = .sq k' es ∧ P es := ⟨k, ds, rfl, q⟩
theorem g_inQ {k : Bool} {ds : List D} {a : D} {Q : Bool → Prop} {M : Mem} (h1 : flatD a = true) (h2 : ds.all flatD = true) (q : Q (inD a ds)) : ∃ es, IsS M (.sq k ds) es ∧ flatD a = true ∧ es.all flatD = true ∧ Q (inD a es) := ⟨ds, .inl ⟨k, rfl⟩, h1, h2, q⟩
theorem g_ninQ {k : Bool} {ds : List D} {a : D} {Q : Bool → Prop} {M : Mem} (h1 : flatD a = true) (h2 : ds.all flatD = true) (q : Q (!inD a ds)) : ∃ es, IsS M (.sq k ds) es ∧ flatD a = true ∧ es.all flatD = true ∧ Q (!inD a es) := ⟨ds, .inl ⟨k, rfl⟩, h1, h2, q⟩
theorem g_inR {p : Addr} {ds : List D} {a : D} {Q : Bool → Prop} {M : Mem} (hp : M p = some (.lst ds)) (h1 : flatD a = true) (h2 : ds.all flatD = true) (q : Q (inD a ds)) : ∃ es, IsS M (.ref p) es ∧ flatD a = true ∧ es.all flatD = true ∧ Q (inD a es) := ⟨ds, .inr (.inl ⟨p, rfl, hp⟩), h1, h2, q⟩
theorem g_ninR {p : Addr} {ds : List D} {a : D} {Q : Bool → Prop} {M : Mem} (hp : M p = some (.lst ds)) (h1 : flatD a = true) (h2 : ds.all flatD = true) (q : Q (!inD a ds)) : ∃ es, IsS M (.ref p) es ∧ flatD a = true ∧ es.all flatD = true ∧ Q (!inD a es) := ⟨ds, .inr (.inl ⟨p, rfl, hp⟩), h1, h2, q⟩
theorem atI_nat {ds : List D} {d : D} (j : Nat) (h : ds[j]? = some d) : atI ds (j : Nat) = some d := by
  have hl := (List.getElem?_eq_some_iff.mp h).1
  unfold atI ixN
  rw [if_pos (by omega), if_pos (by omega)]
  simpa using h
theorem atI_last {ds : List D} {d : D} (h : ds.getLast? = some d) : atI ds (-1) = some d := by
  rw [List.getLast?_eq_getElem?] at h
  have hl := (List.getElem?_eq_some_iff.mp h).1
  unfold atI ixN
  rw [if_neg (by omega), if_pos (by omega)]
  have e : ((-1 : Int) + (ds.length : Nat)).toNat = ds.length - 1 := by omega
  simp only [Option.bind_some, e]
  exact h
/-- a list of texts, of numbers, of flags: what `in` says -/
theorem inD_str {x : Str} {xs : List Str} : inD (.str x) (xs.map D.str) = decide (x ∈ xs) := by
  unfold inD
  induction xs with
  | nil => rfl
  | cons y ys ih =>
    rw [List.map_cons, List.any_cons, ih]
    show ((y == x) || _) = _
    by_cases e : y = x
    · subst e; simp
    · simp [e, Ne.symm e]
theorem inD_int {x : Int} {xs : List Int} : inD (.int x) (xs.map D.int) = decide (x ∈ xs) := by
  unfold inD
  induction xs with
  | nil => rfl
  | cons y ys ih =>
    rw [List.map_cons, List.any_cons, ih]
    show ((y == x) || _) = _
    by_cases e : y = x
    · subst e; simp
    · simp [e, Ne.symm e]
theorem flat_map {α : Type} {f : α → D} (h : ∀ x, flatD (f x) = true) (xs : List α) : (xs.map f).all flatD = true := by
  rw [List.all_eq_true]
  intro x hx
  obtain ⟨y, _, e⟩ := List.mem_map.mp hx
  rw [← e]; exact h y
theorem flat_strs (xs : List Str) : (xs.map D.str).all flatD = true := flat_map (fun _ => rfl) xs
theorem flat_ints (xs : List Int) : (xs.map D.int).all flatD = true := flat_map (fun _ => rfl) xs
theorem mupd_self {M : Mem} {p : Addr} {o : MO} (h : M p = some o) : mupd M p o = M := by
  funext a
  by_cases ha : a = p
  · subst ha; rw [mupd_same, h]
  · rw [mupd_ne ha]
theorem EV.forget {z : Cz} {Γ : Gam} {M : Mem} {te : TE} {P : D → Mem → Prop} (h : EV z te Γ M fun d M' => ∃ M'', (∀ a o, M'' a = some o → M' a = some o) ∧ P d M'') : EV z te Γ M P :=
  fun B F σ H sl hs Q q => h B F σ H sl hs Q fun d M' ⟨M'', k, p⟩ v B' H' e r s => q d M'' p v B' H' e r (s.drop k)
theorem EVS.forget {z : Cz} {Γ : Gam} {M : Mem} {ts : TS} {E : PN} (h : EVS z ts Γ M ⟨fun g m => ∃ m'', (∀ a o, m'' a = some o → m a = some o) ∧ E.nx g m'', fun d m => ∃ m'', (∀ a o, m'' a = some o → m a = some o) ∧ E.rt d m'', E.bk, E.ct⟩) : EVS z ts Γ M E :=
  fun B F σ H Dd sl hs l => h B F σ H Dd sl hs ⟨fun g m ⟨m'', k, p⟩ B' σ' H' e sl' s => l.nx g m'' p B' σ' H' e sl' (s.drop k), fun d m ⟨m'', k, p⟩ v B' H' e r s => l.rt d m'' p v B' H' e r (s.drop k), l.bk, l.ct⟩
theorem s_seqI {z : Cz} {Γ : Gam} {M : Mem} {ts tu : TS} {E : PN} (I : Gam → Mem → Prop) (h : EVS z ts Γ M ⟨I, E.rt, E.bk, E.ct⟩) (k : ∀ γ m, I γ m → EVS z tu γ m E) : EVS z (tSeq ts tu) Γ M E := s_seq (h.imp k (fun _ _ p => p) (fun _ _ p => p) (fun _ _ p => p))
theorem s_subL {z : Cz} {Γ : Gam} {M : Mem} {te ta tb : TE} {E : PN} (h : EV z te Γ M fun d M1 => EV z ta Γ M1 fun d1 M2 => EV z tb Γ M2 fun d2 M3 => ∃ p ds i j, d1 = .ref p ∧ M3 p = some (.lst ds) ∧ d2 = .int i ∧ ixN ds.length i = some j ∧ E.nx Γ (mupd M3 p (.lst (ds.set j d)))) : EVS z (tAsg te (gSub ta tb rSetL)) Γ M E :=
  s_asg (js := []) (h.imp fun d M1 h1 => eg_setL h1)
theorem IsS.q {M : Mem} {k : Bool} {ds : List D} : IsS M (.sq k ds) ds := .inl ⟨k, rfl⟩
theorem IsS.r {M : Mem} {p : Addr} {ds : List D} (h : M p = some (.lst ds)) : IsS M (.ref p) ds := .inr (.inl ⟨p, rfl, h⟩)
theorem IsS.sc {M : Mem} {ns : List Int} : IsS M (.scr ns) (ns.map D.int) := .inr (.inr ⟨ns, rfl, rfl⟩)
theorem IsL.q {M : Mem} {ds : List D} : IsL M (.sq true ds) ds := .inl rfl
theorem IsL.r {M : Mem} {p : Addr} {ds : List D} (h : M p = some (.lst ds)) : IsL M (.ref p) ds := .inr ⟨p, rfl, h⟩
theorem CMul.l {i j : Int} (h1 : -(2 ^ 64) < i) (h2 : i < 2 ^ 64) : CMul i j := .inl ⟨h1, h2⟩
theorem CMul.r {i j : Int} (h1 : -(2 ^ 64) < j) (h2 : j < 2 ^ 64) : CMul i j := .inr ⟨h1, h2⟩
theorem CDiv.mk {i j : Int} (h1 : 0 < j) (h2 : j < 1073741824) : CDiv i j := ⟨h1, h2⟩
theorem mupd_ex {M : Mem} {p : Addr} {o : MO} (h : M p = none) : ∀ a u, M a = some u → mupd M p o a = some u := fun a u e => by
  rw [mupd_ne (mne e h)]
  exact e
end Lv

set_option Elab.async false
set_option linter.all false
set_option maxRecDepth 100000
set_option maxHeartbeats 4000000
/-! Lay9: the source cell, trees, pairs as targets. -/
namespace Lv
open PySem PySem.Spec PyProof.Rows L2 StX
section
variable {z : Cz} {Γ : Gam} {M : Mem} {te : TE} {E : PN} {k : Gam → Mem → Prop}
theorem eg_unl2 {i j : Nat} {a b : D} (h : k ((Γ.set i (some a)).set j (some b)) M) : EG z (gUnl z.K 2 (gCons (gName i) (gCons (gName j) gNil))) [i, j] (.sq true [a, b]) Γ M k :=
  eg_unl (js := [i, j]) rfl (egs_cons (js := [i]) (ks := [j]) (eg_name (egs_cons (js := [j]) (ks := []) (eg_name (egs_nil h)))))
theorem eg_unl3 {i j l : Nat} {a b c : D} (h : k (((Γ.set i (some a)).set j (some b)).set l (some c)) M) : EG z (gUnl z.K 3 (gCons (gName i) (gCons (gName j) (gCons (gName l) gNil)))) [i, j, l] (.sq true [a, b, c]) Γ M k :=
  eg_unl (js := [i, j, l]) rfl (egs_cons (js := [i]) (ks := [j, l]) (eg_name (egs_cons (js := [j]) (ks := [l]) (eg_name (egs_cons (js := [l]) (ks := []) (eg_name (egs_nil h)))))))
theorem eg_tup2 {i j : Nat} {a b : D} (h : k ((Γ.set i (some a)).set j (some b)) M) : EG z (gTup z.K 2 (gCons (gName i) (gCons (gName j) gNil))) [i, j] (.sq false [a, b]) Γ M k :=
  eg_tup (js := [i, j]) rfl (egs_cons (js := [i]) (ks := [j]) (eg_name (egs_cons (js := [j]) (ks := []) (eg_name (egs_nil h)))))
theorem s_unl2 {i j : Nat} (h : EV z te Γ M fun d M1 => ∃ a b, d = .sq true [a, b] ∧ E.nx ((Γ.set i (some a)).set j (some b)) M1) : EVS z (tAsg te (gUnl z.K 2 (gCons (gName i) (gCons (gName j) gNil)))) Γ M E :=
  s_asg (js := [i, j]) (h.imp fun d M1 ⟨a, b, e, q⟩ => by subst e; exact eg_unl2 q)
theorem s_tup2 {i j : Nat} (h : EV z te Γ M fun d M1 => ∃ a b, d = .sq false [a, b] ∧ E.nx ((Γ.set i (some a)).set j (some b)) M1) : EVS z (tAsg te (gTup z.K 2 (gCons (gName i) (gCons (gName j) gNil)))) Γ M E :=
  s_asg (js := [i, j]) (h.imp fun d M1 ⟨a, b, e, q⟩ => by subst e; exact eg_tup2 q)
end
/-! ### the source -/
def Src (M : Mem) (p : Addr) : Prop := ∃ a b : Int, M p = some (.lst [.int a, .int b]) ∧ 0 ≤ a ∧ 0 ≤ b ∧ b < 2147483647
def SrcR (M : Mem) (p : Addr) (M' : Mem) : Prop := ∃ a b : Int, M' = mupd M p (.lst [.int a, .int b]) ∧ 0 ≤ a ∧ 0 ≤ b ∧ b < 2147483647
section
variable {M M1 M2 : Mem} {p q : Addr} {o : MO}
theorem SrcR.src (h : SrcR M p M1) : Src M1 p := by
  obtain ⟨a, b, e, h⟩ := h
  exact ⟨a, b, by rw [e, mupd_same], h⟩
theorem SrcR.trans (h : SrcR M p M1) (h' : SrcR M1 p M2) : SrcR M p M2 := by
  obtain ⟨a, b, e, h⟩ := h
  obtain ⟨a', b', e', h'⟩ := h'
  exact ⟨a', b', by rw [e', e, mupd_mupd], h'⟩
theorem Src.refl (h : Src M p) : SrcR M p M := by
  obtain ⟨a, b, e, h⟩ := h
  exact ⟨a, b, (mupd_self e).symm, h⟩
theorem SrcR.get (h : SrcR M p M1) (hq : q ≠ p) : M1 q = M q := by
  obtain ⟨a, b, e, h⟩ := h
  rw [e, mupd_ne hq]
theorem Src.upd (h : Src M p) (hq : q ≠ p) : Src (mupd M q o) p := by
  obtain ⟨a, b, e, h⟩ := h
  exact ⟨a, b, by rw [mupd_ne hq.symm]; exact e, h⟩
theorem mupd_comm {o' : MO} (h : p ≠ q) : mupd (mupd M p o) q o' = mupd (mupd M q o') p o := by
  funext a
  by_cases ha : a = q
  · subst ha
    rw [mupd_same, mupd_ne h.symm, mupd_same]
  · rw [mupd_ne ha]
    by_cases hb : a = p
    · subst hb
      rw [mupd_same, mupd_same]
    · rw [mupd_ne hb, mupd_ne hb, mupd_ne ha]
theorem SrcR.swap (h : SrcR (mupd M q o) p M1) (hq : q ≠ p) : ∃ M2, SrcR M p M2 ∧ M1 = mupd M2 q o := by
  obtain ⟨a, b, e, h⟩ := h
  exact ⟨_, ⟨a, b, rfl, h⟩, by rw [e, mupd_comm hq]⟩
theorem Src.ne (h : Src M p) (hq : M q = none) : q ≠ p := by
  obtain ⟨a, b, e, h⟩ := h
  intro x
  subst x
  rw [hq] at e
  cases e
end
/-! ### trees -/
inductive Tr where
  | use (n : Str)
  | join (l : Str) (ts : List Tr)
  | bind (n : Str) (ts : List Tr) (b : Tr)
mutual
def dT : Tr → D
  | .use n => .sq false [.str "use", .str n]
  | .join l ts => .sq false [.str "join", .str l, .sq false (dTs ts)]
  | .bind n ts b => .sq false [.str "bind", .str n, .sq false (dTs ts), dT b]
def dTs : List Tr → List D
  | [] => []
  | t :: ts => dT t :: dTs ts
end
mutual
def nodes : Tr → Nat
  | .use _ => 1
  | .join _ ts => 1 + nodesL ts
  | .bind _ ts b => 1 + nodesL ts + nodes b
def nodesL : List Tr → Nat
  | [] => 0
  | t :: ts => nodes t + nodesL ts
end
mutual
def bins : Tr → Nat
  | .use _ => 0
  | .join _ ts => binsL ts
  | .bind _ ts b => 1 + binsL ts + bins b
def binsL : List Tr → Nat
  | [] => 0
  | t :: ts => bins t + binsL ts
end
def abc : Str := "abcdefghijklmnopqrstuvwxyz"
/-- a name: 1 to 8 small letters -/
def OkName (s : Str) : Prop := 1 ≤ s.length ∧ s.length ≤ 8 ∧ ∀ c ∈ s.cps.toList, c ∈ abc.cps.toList
instance : DecidablePred OkName := fun s => inferInstanceAs (Decidable (_ ∧ _ ∧ _))
mutual
def OkT : Tr → Prop
  | .use n => OkName n
  | .join l ts => OkName l ∧ OkTs ts
  | .bind n ts b => OkName n ∧ OkTs ts ∧ OkT b
def OkTs : List Tr → Prop
  | [] => True
  | t :: ts => OkT t ∧ OkTs ts
end
theorem dTs_map : ∀ ts : List Tr, dTs ts = ts.map dT
  | [] => by rw [dTs]; rfl
  | t :: ts => by rw [dTs, dTs_map ts]; rfl
theorem dTs_append (ts us : List Tr) : dTs (ts ++ us) = dTs ts ++ dTs us := by rw [dTs_map, dTs_map, dTs_map, List.map_append]
theorem dTs_len (ts : List Tr) : (dTs ts).length = ts.length := by rw [dTs_map, List.length_map]
theorem nodesL_append : ∀ ts us : List Tr, nodesL (ts ++ us) = nodesL ts + nodesL us
  | [], us => by rw [List.nil_append, nodesL, Nat.zero_add]
  | t :: ts, us => by rw [List.cons_append, nodesL, nodesL, nodesL_append ts us, Nat.add_assoc]
theorem binsL_append : ∀ ts us : List Tr, binsL (ts ++ us) = binsL ts + binsL us
  | [], us => by rw [List.nil_append, binsL, Nat.zero_add]
  | t :: ts, us => by rw [List.cons_append, binsL, binsL, binsL_append ts us, Nat.add_assoc]
theorem OkTs_append : ∀ {ts us : List Tr}, OkTs ts → OkTs us → OkTs (ts ++ us)
  | [], us, _, h => h
  | t :: ts, us, h, h' => by
    rw [OkTs] at h
    rw [List.cons_append, OkTs]
    exact ⟨h.1, OkTs_append h.2 h'⟩
theorem OkTs_mem : ∀ {ts : List Tr}, OkTs ts → ∀ t ∈ ts, OkT t
  | [], _, t, h => by cases h
  | u :: ts, h, t, ht => by
    rw [OkTs] at h
    rcases List.mem_cons.mp ht with e | e
    · rw [e]; exact h.1
    · exact OkTs_mem h.2 t e
theorem nodesL_len : ∀ ts : List Tr, ts.length ≤ nodesL ts
  | [] => Nat.zero_le _
  | t :: ts => by
    rw [List.length_cons, nodesL]
    have h1 := nodesL_len ts
    have h2 : 1 ≤ nodes t := by cases t <;> rw [nodes] <;> omega
    omega
theorem nodes_pos (t : Tr) : 1 ≤ nodes t := by cases t <;> rw [nodes] <;> omega
theorem OkName.ok {s : Str} (h : OkName s) : PyData.strOk s = true := by
  unfold PyData.strOk
  rw [← Array.all_toList, List.all_eq_true]
  intro c hc
  have h1 := h.2.2 c hc
  have h2 : ∀ c ∈ abc.cps.toList, decide (c < 1114112) = true := by decide +kernel
  exact h2 c h1
/-! ### == of data -/
theorem eqv_refl : ∀ d : D, isData d = true → PyData.eqv (py d) (py d) = true
  | .non, _ => rfl
  | .bl b, _ => by rw [py, PyData.eqv]; simp
  | .int b, _ => by rw [py, PyData.eqv]; simp
  | .str b, _ => by rw [py, PyData.eqv]; simp
  | .sq true ds, h => by rw [py, PyData.eqv]; exact go ds h
  | .sq false ds, h => by rw [py, PyData.eqv]; exact go ds h
  | .ref _, h => by cases h
  | .obj _ _, h => by cases h
  | .scr _, h => by cases h
  | .nd _, h => by cases h
where
  go : ∀ ds : List D, areData ds = true → PyData.eqvAll (pys ds) (pys ds) = true
    | [], _ => rfl
    | d :: ds, h => by
      have h' : (isData d && areData ds) = true := h
      rw [Bool.and_eq_true] at h'
      rw [pys, PyData.eqvAll, eqv_refl d h'.1, go ds h'.2]; rfl
def strsOk : D → Prop
  | .str s => PyData.strOk s = true
  | _ => True
theorem pys_map (ds : List D) : pys ds = ds.map py := by
  induction ds with
  | nil => rfl
  | cons d ds ih => rw [pys, ih]; rfl
theorem canLay_all : ∀ ds : List D, (∀ x ∈ ds, (py x).canLay0 = true) → PyData.canLayAll0 (pys ds) = true
  | [], _ => rfl
  | d :: ds, h => by
    rw [pys, PyData.canLayAll0, h d List.mem_cons_self, canLay_all ds fun x hx => h x (List.mem_cons_of_mem _ hx)]; rfl
theorem depth_all {n : Nat} : ∀ ds : List D, (∀ x ∈ ds, (py x).depth ≤ n) → PyData.depthAll (pys ds) ≤ n
  | [], _ => Nat.zero_le _
  | d :: ds, h => by
    rw [pys, PyData.depthAll]
    exact Nat.max_le.mpr ⟨h d List.mem_cons_self, depth_all ds fun x hx => h x (List.mem_cons_of_mem _ hx)⟩
theorem data_all : ∀ ds : List D, (∀ x ∈ ds, isData x = true) → areData ds = true
  | [], _ => rfl
  | d :: ds, h => by
    show (isData d && areData ds) = true
    rw [h d List.mem_cons_self, data_all ds fun x hx => h x (List.mem_cons_of_mem _ hx)]; rfl
/-- data of depth at most n, its texts fine -/
structure Da (n : Nat) (d : D) : Prop where
  isd : isData d = true
  lay : (py d).canLay0 = true
  dep : (py d).depth ≤ n
theorem Da.sq {n : Nat} {k : Bool} {ds : List D} (h : ∀ x ∈ ds, Da n x) : Da (n + 1) (.sq k ds) := by
  refine ⟨?_, ?_, ?_⟩
  · show areData ds = true
    exact data_all ds fun x hx => (h x hx).isd
  · have := canLay_all ds fun x hx => (h x hx).lay
    cases k
    · rw [py, PyData.canLay0]; exact this
    · rw [py, PyData.canLay0]; exact this
  · have := depth_all ds fun x hx => (h x hx).dep
    cases k
    · rw [py, PyData.depth]; omega
    · rw [py, PyData.depth]; omega
theorem Da.mono {n m : Nat} {d : D} (h : Da n d) (k : n ≤ m) : Da m d := ⟨h.isd, h.lay, Nat.le_trans h.dep k⟩
theorem Da.int {n : Nat} {i : Int} : Da n (.int i) := ⟨rfl, by rw [py, PyData.canLay0], by rw [py, PyData.depth]; omega⟩
theorem Da.bl {n : Nat} {i : Bool} : Da n (.bl i) := ⟨rfl, by rw [py, PyData.canLay0], by rw [py, PyData.depth]; omega⟩
theorem Da.non {n : Nat} : Da n .non := ⟨rfl, by rw [py, PyData.canLay0], by rw [py, PyData.depth]; omega⟩
theorem Da.str {n : Nat} {s : Str} (h : PyData.strOk s = true) : Da n (.str s) := ⟨rfl, by rw [py, PyData.canLay0]; exact h, by rw [py, PyData.depth]; omega⟩
theorem Da.sh {n : Nat} {d : D} (h : Da n d) (hn : n ≤ 64) : SeqAt.shaped (py d) = true := by
  unfold SeqAt.shaped
  rw [h.lay, decide_eq_true (Nat.le_trans h.dep hn)]; rfl
theorem eq_refl {n : Nat} {d : D} (h : Da n d) (hn : n ≤ 64) : EqIs d d true := .da h.isd h.isd (h.sh hn) (h.sh hn) (eqv_refl d h.isd)
theorem eq_nil {n : Nat} {ds : List D} (h : ∀ x ∈ ds, Da n x) (hn : n + 1 ≤ 64) : EqIs (.sq true ds) (.sq true []) ds.isEmpty := by
  have h1 : Da (n + 1) (.sq true ds) := Da.sq h
  have h2 : Da (n + 1) (.sq true []) := Da.sq (fun x hx => nomatch hx)
  refine .da h1.isd h2.isd (h1.sh hn) (h2.sh hn) ?_
  rw [py, py, PyData.eqv]
  cases ds with
  | nil => rfl
  | cons d ds => rfl
section
variable {z : Cz} {Γ : Gam} {M : Mem} {ta : TE} {P : D → Mem → Prop}
theorem ev_lst0 (h : ∀ p, M p = none → P (.ref p) (mupd M p (.lst []))) : EV z (tLst tNil) Γ M P := ev_lstM (ea_nil ⟨Nat.zero_le _, h⟩)
theorem ev_eqE (h : EV z ta Γ M fun d M1 => ∃ ds, d = .sq true ds ∧ (∃ n, n + 1 ≤ 64 ∧ ∀ x ∈ ds, Da n x) ∧ P (.bl ds.isEmpty) M1) : EV z (tOp (rEqU z.K) ta (tLst tNil)) Γ M P :=
  ev_op (h.imp fun d M1 ⟨ds, e, ⟨n, hn, hd⟩, k⟩ => ev_lst (ea_nil ⟨Nat.zero_le _, by subst e; exact ⟨_, eq_nil hd hn, k⟩⟩))
theorem ev_neE (h : EV z ta Γ M fun d M1 => ∃ ds, d = .sq true ds ∧ (∃ n, n + 1 ≤ 64 ∧ ∀ x ∈ ds, Da n x) ∧ P (.bl (!ds.isEmpty)) M1) : EV z (tOp (rNeU z.K) ta (tLst tNil)) Γ M P :=
  ev_op (h.imp fun d M1 ⟨ds, e, ⟨n, hn, hd⟩, k⟩ => ev_lst (ea_nil ⟨Nat.zero_le _, by subst e; exact ⟨_, eq_nil hd hn, k⟩⟩))
end
theorem g_eqSt {i : Str} {P : Bool → Prop} (h : P true) : ∃ c, EqIs (.str i) (.str i) c ∧ P c := g_eqS (by rw [decide_eq_true rfl]; exact h)
theorem g_eqSf {i j : Str} {P : Bool → Prop} (e : i ≠ j) (h : P false) : ∃ c, EqIs (.str i) (.str j) c ∧ P c := g_eqS (by rw [decide_eq_false e]; exact h)
end Lv

set_option Elab.async false
set_option linter.all false
set_option maxRecDepth 100000
set_option maxHeartbeats 4000000
/-! Sc1: the places of a tree in order: number, tree, what is around by number of node and by number of binder. -/
namespace Lv
open PySem
structure En where
  ix : Nat
  nb : Nat
  tr : Tr
  an : List Nat
  ab : List Nat
mutual
def fx : Tr → List Nat → List Nat → Nat → Nat → List En
  | .use n, An, A, f, k => [⟨f, k, .use n, An, A⟩]
  | .join l ts, An, A, f, k => ⟨f, k, .join l ts, An, A⟩ :: fxL ts An A (f + 1) k
  | .bind n ts b, An, A, f, k => ⟨f, k, .bind n ts b, An, A⟩ :: (fxL ts An A (f + 1) (k + 1) ++ fx b (An ++ [f]) (A ++ [k]) (f + 1 + nodesL ts) (k + 1 + binsL ts))
def fxL : List Tr → List Nat → List Nat → Nat → Nat → List En
  | [], _, _, _, _ => []
  | t :: ts, An, A, f, k => fx t An A f k ++ fxL ts An A (f + nodes t) (k + bins t)
end
def isBind : Tr → Bool
  | .bind _ _ _ => true
  | _ => false
def isUse : Tr → Bool
  | .use _ => true
  | _ => false
def lab : Tr → Str
  | .use n => n
  | .join l _ => l
  | .bind n _ _ => n
def bnd (L : List En) : List En := L.filter fun e => isBind e.tr
def usd (L : List En) : List En := L.filter fun e => isUse e.tr
theorem bnd_app (a b : List En) : bnd (a ++ b) = bnd a ++ bnd b := List.filter_append ..
theorem usd_app (a b : List En) : usd (a ++ b) = usd a ++ usd b := List.filter_append ..
/-- what a walk over a tree keeps: a property of the pieces told once -/
theorem fx_len (t : Tr) (An A : List Nat) (f k : Nat) : (fx t An A f k).length = nodes t := by
  suffices h : ∀ n (t : Tr), nodes t ≤ n → ∀ An A f k, (fx t An A f k).length = nodes t from h _ t (Nat.le_refl _) An A f k
  intro n
  induction n with
  | zero => intro t ht; have := nodes_pos t; omega
  | succ n ih =>
    have hl : ∀ ts : List Tr, nodesL ts ≤ n → ∀ An A f k, (fxL ts An A f k).length = nodesL ts := by
      intro ts
      induction ts with
      | nil => intro _ An A f k; rw [fxL, nodesL]; rfl
      | cons t ts ih2 =>
        intro h An A f k
        rw [nodesL] at h
        rw [fxL, nodesL, List.length_append, ih t (by omega), ih2 (by omega)]
    intro t ht An A f k
    cases t with
    | use n => rw [fx, nodes]; rfl
    | join l ts => rw [nodes] at ht; rw [fx, nodes, List.length_cons, hl ts (by omega)]; omega
    | bind n ts b => rw [nodes] at ht; rw [fx, nodes, List.length_cons, List.length_append, hl ts (by have := nodes_pos b; omega), ih b (by omega)]; omega
theorem fx_bnd (t : Tr) (An A : List Nat) (f k : Nat) : (bnd (fx t An A f k)).length = bins t := by
  suffices h : ∀ n (t : Tr), nodes t ≤ n → ∀ An A f k, (bnd (fx t An A f k)).length = bins t from h _ t (Nat.le_refl _) An A f k
  intro n
  induction n with
  | zero => intro t ht; have := nodes_pos t; omega
  | succ n ih =>
    have hl : ∀ ts : List Tr, nodesL ts ≤ n → ∀ An A f k, (bnd (fxL ts An A f k)).length = binsL ts := by
      intro ts
      induction ts with
      | nil => intro _ An A f k; rw [fxL, binsL]; rfl
      | cons t ts ih2 =>
        intro h An A f k
        rw [nodesL] at h
        rw [fxL, binsL, bnd_app, List.length_append, ih t (by omega), ih2 (by omega)]
    intro t ht An A f k
    cases t with
    | use n => rw [fx, bins]; rfl
    | join l ts =>
      rw [nodes] at ht; rw [fx, bins]
      show (bnd (fxL ts An A (f + 1) k)).length = _
      rw [hl ts (by omega)]
    | bind n ts b =>
      rw [nodes] at ht; rw [fx, bins]
      show (_ :: bnd (fxL ts An A (f + 1) (k + 1) ++ fx b _ _ _ _)).length = _
      rw [List.length_cons, bnd_app, List.length_append, hl ts (by have := nodes_pos b; omega), ih b (by omega)]; omega
/-- around A is fit for what stands before: pre: of each binder so far its node and what is around it -/
def Fit (pre : List En) (An A : List Nat) : Prop := An.length = A.length ∧ ∀ (i x : Nat), A[i]? = some x → ∃ e, pre[x]? = some e ∧ e.ab = A.take i ∧ An[i]? = some e.ix
theorem Fit.app {pre more : List En} {An A : List Nat} (h : Fit pre An A) : Fit (pre ++ more) An A := ⟨h.1, fun i x hx => by
  obtain ⟨e, h1, h2, h3⟩ := h.2 i x hx
  exact ⟨e, by rw [List.getElem?_append_left (List.getElem?_eq_some_iff.mp h1).1]; exact h1, h2, h3⟩⟩
theorem Fit.nil {pre : List En} : Fit pre [] [] := ⟨rfl, fun i x h => by simp at h⟩
theorem Fit.push {pre : List En} {An A : List Nat} {e : En} (h : Fit pre An A) (h2 : e.ab = A) : Fit (pre ++ [e]) (An ++ [e.ix]) (A ++ [pre.length]) := by
  refine ⟨by rw [List.length_append, List.length_append, h.1]; rfl, fun i x hx => ?_⟩
  by_cases hi : i < A.length
  · rw [List.getElem?_append_left hi] at hx
    obtain ⟨e', k1, k2, k3⟩ := h.2 i x hx
    refine ⟨e', by rw [List.getElem?_append_left (List.getElem?_eq_some_iff.mp k1).1]; exact k1, ?_, ?_⟩
    · rw [List.take_append_of_le_length (by omega)]; exact k2
    · rw [List.getElem?_append_left (by rw [h.1]; exact hi)]; exact k3
  · rw [List.getElem?_append_right (by omega)] at hx
    have hi2 : i = A.length := by
      have := (List.getElem?_eq_some_iff.mp hx).1
      simp at this
      omega
    subst hi2
    simp at hx
    subst hx
    refine ⟨e, by simp, by rw [h2, List.take_append_of_le_length (Nat.le_refl _), List.take_length], ?_⟩
    rw [List.getElem?_append_right (by rw [h.1]; exact Nat.le_refl _), h.1]
    simp
/-- every place is fit, and has its number -/
theorem fx_fit (t : Tr) : ∀ (pre : List En) (An A : List Nat) (f : Nat), Fit pre An A → ∀ e ∈ fx t An A f pre.length, Fit (pre ++ bnd (fx t An A f pre.length)) e.an e.ab := by
  suffices h : ∀ n (t : Tr), nodes t ≤ n → ∀ (pre : List En) An A f, Fit pre An A → ∀ e ∈ fx t An A f pre.length, Fit (pre ++ bnd (fx t An A f pre.length)) e.an e.ab from h _ t (Nat.le_refl _)
  intro n
  induction n with
  | zero => intro t ht; have := nodes_pos t; omega
  | succ n ih =>
    have hl : ∀ ts : List Tr, nodesL ts ≤ n → ∀ (pre : List En) An A f, Fit pre An A → ∀ e ∈ fxL ts An A f pre.length, Fit (pre ++ bnd (fxL ts An A f pre.length)) e.an e.ab := by
      intro ts
      induction ts with
      | nil => intro _ pre An A f _ e he; rw [fxL] at he; cases he
      | cons t ts ih2 =>
        intro h pre An A f hf e he
        rw [nodesL] at h
        rw [fxL] at he ⊢
        rw [bnd_app, ← List.append_assoc]
        rcases List.mem_append.mp he with he | he
        · exact (ih t (by omega) pre An A f hf e he).app
        · have hlen : (pre ++ bnd (fx t An A f pre.length)).length = pre.length + bins t := by rw [List.length_append, fx_bnd]
          have := ih2 (by omega) (pre ++ bnd (fx t An A f pre.length)) An A (f + nodes t) hf.app
          rw [hlen] at this
          exact this e he
    intro t ht pre An A f hf e he
    cases t with
    | use n => rw [fx] at he; simp at he; subst he; exact hf.app
    | join l ts =>
      rw [nodes] at ht; rw [fx] at he ⊢
      show Fit (pre ++ bnd (fxL ts An A (f + 1) pre.length)) e.an e.ab
      rcases List.mem_cons.mp he with he | he
      · subst he; exact hf.app
      · exact hl ts (by omega) pre An A (f + 1) hf e he
    | bind n ts b =>
      rw [nodes] at ht; rw [fx] at he ⊢
      show Fit (pre ++ (⟨f, pre.length, .bind n ts b, An, A⟩ :: bnd (fxL ts An A (f + 1) (pre.length + 1) ++ fx b (An ++ [f]) (A ++ [pre.length]) (f + 1 + nodesL ts) (pre.length + 1 + binsL ts)))) e.an e.ab
      rw [List.append_cons, bnd_app, ← List.append_assoc]
      have hlen1 : (pre ++ [(⟨f, pre.length, .bind n ts b, An, A⟩ : En)]).length = pre.length + 1 := by simp
      rcases List.mem_cons.mp he with he | he
      · subst he; exact hf.app.app.app
      · rcases List.mem_append.mp he with he | he
        · have := hl ts (by have := nodes_pos b; omega) (pre ++ [⟨f, pre.length, .bind n ts b, An, A⟩]) An A (f + 1) hf.app
          rw [hlen1] at this
          exact (this e he).app
        · have hlen2 : (pre ++ [(⟨f, pre.length, .bind n ts b, An, A⟩ : En)] ++ bnd (fxL ts An A (f + 1) (pre.length + 1))).length = pre.length + 1 + binsL ts := by
            rw [List.length_append, hlen1]
            have : (bnd (fxL ts An A (f + 1) (pre.length + 1))).length = binsL ts := by
              have key : ∀ (ts : List Tr) (f k : Nat), (bnd (fxL ts An A f k)).length = binsL ts := by
                intro ts
                induction ts with
                | nil => intro f k; rw [fxL, binsL]; rfl
                | cons t ts ih3 => intro f k; rw [fxL, binsL, bnd_app, List.length_append, fx_bnd, ih3]
              exact key ts _ _
            rw [this]
          have hp := Fit.push (e := ⟨f, pre.length, .bind n ts b, An, A⟩) hf rfl
          have := ih b (by omega) (pre ++ [⟨f, pre.length, .bind n ts b, An, A⟩] ++ bnd (fxL ts An A (f + 1) (pre.length + 1))) (An ++ [f]) (A ++ [pre.length]) (f + 1 + nodesL ts) hp.app
          rw [hlen2] at this
          exact this e he
/-- the places' numbers -/
theorem fx_ix (t : Tr) : ∀ (An A : List Nat) (f k : Nat), (fx t An A f k).map En.ix = List.range' f (nodes t) := by
  suffices h : ∀ n (t : Tr), nodes t ≤ n → ∀ An A f k, (fx t An A f k).map En.ix = List.range' f (nodes t) from h _ t (Nat.le_refl _)
  intro n
  induction n with
  | zero => intro t ht; have := nodes_pos t; omega
  | succ n ih =>
    have hl : ∀ ts : List Tr, nodesL ts ≤ n → ∀ An A f k, (fxL ts An A f k).map En.ix = List.range' f (nodesL ts) := by
      intro ts
      induction ts with
      | nil => intro _ An A f k; rw [fxL, nodesL]; rfl
      | cons t ts ih2 =>
        intro h An A f k
        rw [nodesL] at h
        rw [fxL, nodesL, List.map_append, ih t (by omega), ih2 (by omega), List.range'_append_1]
    intro t ht An A f k
    cases t with
    | use n => rw [fx, nodes]; rfl
    | join l ts => rw [nodes] at ht; rw [fx, nodes, List.map_cons, hl ts (by omega), Nat.add_comm 1, List.range'_succ]
    | bind n ts b =>
      rw [nodes] at ht
      rw [fx, nodes, List.map_cons, List.map_append, hl ts (by have := nodes_pos b; omega), ih b (by omega), List.range'_append_1, Nat.add_assoc, Nat.add_comm 1, List.range'_succ]
/-- a binder's number is its place among the binders -/
theorem fx_nb (t : Tr) : ∀ (An A : List Nat) (f k : Nat), (bnd (fx t An A f k)).map En.nb = List.range' k (bins t) := by
  suffices h : ∀ n (t : Tr), nodes t ≤ n → ∀ An A f k, (bnd (fx t An A f k)).map En.nb = List.range' k (bins t) from h _ t (Nat.le_refl _)
  intro n
  induction n with
  | zero => intro t ht; have := nodes_pos t; omega
  | succ n ih =>
    have hl : ∀ ts : List Tr, nodesL ts ≤ n → ∀ An A f k, (bnd (fxL ts An A f k)).map En.nb = List.range' k (binsL ts) := by
      intro ts
      induction ts with
      | nil => intro _ An A f k; rw [fxL, binsL]; rfl
      | cons t ts ih2 =>
        intro h An A f k
        rw [nodesL] at h
        rw [fxL, binsL, bnd_app, List.map_append, ih t (by omega), ih2 (by omega), List.range'_append_1]
    intro t ht An A f k
    cases t with
    | use n => rw [fx, bins]; rfl
    | join l ts =>
      rw [nodes] at ht; rw [fx, bins]
      show (bnd (fxL ts An A (f + 1) k)).map En.nb = _
      rw [hl ts (by omega)]
    | bind n ts b =>
      rw [nodes] at ht
      rw [fx, bins]
      show k :: (bnd (fxL ts An A (f + 1) (k + 1) ++ fx b (An ++ [f]) (A ++ [k]) (f + 1 + nodesL ts) (k + 1 + binsL ts))).map En.nb = _
      rw [bnd_app, List.map_append, hl ts (by have := nodes_pos b; omega), ih b (by omega), List.range'_append_1, Nat.add_assoc, Nat.add_comm 1, List.range'_succ]
end Lv

set_option Elab.async false
set_option linter.all false
set_option maxRecDepth 100000
set_option maxHeartbeats 4000000
/-! Lay10: comprehensions over told lists, dict displays, freezing inside a dict. -/
namespace Lv
open PySem PySem.Spec PyProof.Rows L2 StX
section
variable {z : Cz} {Γ : Gam} {M : Mem} {te ta tb tk tv : TE} {P : D → Mem → Prop} {E : PN} {ts : TS}
theorem filter_take_succ {α : Type} {es : List α} {c : α → Bool} {i : Nat} {e : α} (h : es[i]? = some e) : (es.take (i + 1)).filter c = (es.take i).filter c ++ (if c e = true then [e] else []) := by
  rw [List.take_add_one, h, List.filter_append]
  congr 1
  show List.filter c [e] = _
  cases q : c e <;> simp [q]
/-- an element for each told item that the test lets, nothing changed -/
theorem ev_lcX {α : Type} {wi : TI} {g : TG} {tt : TT} {vs : List Nat} (js : List Nat) (hj : ∀ j ∈ js, j ∈ vs) (es : List α) (w : α → D) (c : α → Bool) (f : α → D)
    (h : EI z wi Γ M fun xs Gd M1 => xs = es.map w ∧ es.length ≤ sizeLine ∧ Gd M1 ∧
      (∀ (i : Nat) (e : α), es[i]? = some e → EG z g js (w e) (wipeG Γ vs) M1 fun Γ2 M2 => M2 = M1 ∧ ET z tt Γ2 M1 fun b M3 => b = c e ∧ M3 = M1 ∧ (b = true → EV z te Γ2 M1 fun y M4 => y = f e ∧ M4 = M1)) ∧
      NewL ((es.filter c).map f) M1 P) : EV z (tLc wi g tt te vs) Γ M P := by
  refine ev_lc js hj fun B F σ H sl hs RR q => h B F σ H sl hs RR fun xs Gd M1 ⟨ex, hz, hG, step, done⟩ => q xs Gd M1 ?_
  subst ex
  refine ⟨by rw [List.length_map]; exact hz, fun i acc m => acc = ((es.take i).filter c).map f ∧ m = M1, ⟨by simp, rfl⟩, fun i acc m hi ⟨e1, e2⟩ => ⟨by rw [e2]; exact hG, ?_⟩, fun i x acc m hx ⟨e1, e2⟩ => ?_, fun acc m ⟨e1, e2⟩ => ?_⟩
  · rw [e1, List.length_map]
    refine Nat.le_trans (List.length_filter_le _ _) ?_
    rw [List.length_take]
    omega
  · subst e1 e2
    rw [List.getElem?_map] at hx
    cases qe : es[i]? with
    | none => rw [qe] at hx; cases hx
    | some e =>
      rw [qe] at hx
      cases hx
      intro B F σ H v sl hs r Q q2
      refine step i e qe B F σ H v sl hs r Q fun Γ2 M2 ⟨e3, h3⟩ => q2 Γ2 M2 ?_
      subst e3
      refine h3.imp fun b M3 ⟨e4, e5, h4⟩ => ⟨fun hb => ?_, fun hb => ?_⟩
      · subst e5
        refine (h4 hb).imp fun y M4 ⟨e6, e7⟩ => ⟨?_, e7⟩
        rw [filter_take_succ qe, if_pos (e4.symm.trans hb), List.map_append, e6]
        rfl
      · refine ⟨?_, e5⟩
        rw [filter_take_succ qe, if_neg (by rw [← e4, hb]; decide), List.append_nil]
  · subst e1 e2
    rw [List.length_map, List.take_length]
    exact done
/-- .. without a test -/
theorem filtA {α : Type} (xs : List α) : xs.filter (fun _ => true) = xs := List.filter_eq_self.mpr fun _ _ => rfl
theorem ev_lcA {α : Type} {wi : TI} {g : TG} {vs : List Nat} (js : List Nat) (hj : ∀ j ∈ js, j ∈ vs) (es : List α) (w : α → D) (f : α → D)
    (h : EI z wi Γ M fun xs Gd M1 => xs = es.map w ∧ es.length ≤ sizeLine ∧ Gd M1 ∧
      (∀ (i : Nat) (e : α), es[i]? = some e → EG z g js (w e) (wipeG Γ vs) M1 fun Γ2 M2 => M2 = M1 ∧ EV z te Γ2 M1 fun y M4 => y = f e ∧ M4 = M1) ∧
      NewL (es.map f) M1 P) : EV z (tLc wi g tYes te vs) Γ M P :=
  ev_lcX js hj es w (fun _ => true) f fun B F σ H sl hs RR q => h B F σ H sl hs RR fun xs Gd M1 ⟨a, b, c, d, e⟩ => q xs Gd M1 ⟨a, b, c, fun i x hx B F σ H v sl hs r Q q2 => d i x hx B F σ H v sl hs r Q fun Γ2 M2 ⟨e1, e2⟩ => q2 Γ2 M2 ⟨e1, et_yes ⟨rfl, rfl, fun _ => e2⟩⟩, by rw [filtA]; exact e⟩
theorem pairs_zip (ds : List D) : pairs ds = ds.zipIdx.map fun p => .sq false [.int (p.2 : Nat), p.1] := by
  apply List.ext_getElem?
  intro i
  unfold pairs
  rw [List.getElem?_map, List.getElem?_map, List.getElem?_zipIdx]
  by_cases hi : i < ds.length
  · rw [List.getElem?_range hi, List.getElem?_eq_getElem hi]
    simp [List.getD, List.getElem?_eq_getElem hi]
  · rw [List.getElem?_eq_none (by simpa using hi), List.getElem?_eq_none (by simpa using hi)]
    rfl
theorem pairs_map {α : Type} (es : List α) (w : α → D) : pairs (es.map w) = es.zipIdx.map fun p => .sq false [.int (p.2 : Nat), w p.1] := by
  rw [pairs_zip, List.zipIdx_map, List.map_map]
  rfl
theorem rgD_map (n : Nat) : rgD 0 n = (List.range n).map fun i => .int (i : Nat) := by
  unfold rgD
  congr 1
  funext i
  rw [Int.zero_add]
/-! ### a dict display of three texts -/
def mergeD (kvs more : List (Key × D)) : List (Key × D) := more.foldl (fun acc kv => putD acc kv.1 kv.2) kvs
theorem Rpk.merge {B : Hp} : ∀ {more : List (Key × D)} {ms : List (Key × V)} {ds : List (Key × D)} {vs : List (Key × V)}, Rpk z B more ms → Rpk z B ds vs → Rpk z B (mergeD ds more) (mergeK vs ms)
  | _, _, _, _, .nil, t => t
  | _, _, _, _, .cons r s, t => Rpk.merge (ds := putD _ _ _) (vs := putK _ _ _) s (Rpk.put r t)
theorem ev_disp3 {k1 k2 k3 : Str} {t1 t2 t3 : TE} (h : EV z t1 Γ M fun d1 M1 => EV z t2 Γ M1 fun d2 M2 => EV z t3 Γ M2 fun d3 M3 => ∀ p, M3 p = none → P (.ref p) (mupd M3 p (.dK (mergeD [] [(.inr k1, d1), (.inr k2, d2), (.inr k3, d3)])))) :
    EV z (tDisp [(tC (.str k1), t1), (tC (.str k2), t2), (tC (.str k3), t3)]) Γ M P := by
  intro B F σ H sl hs Q q p hp
  have hF : F p = none := (hs.fresh hp).2.1
  have s0 : Hs z B (upd F p (.dK [])) M (upd H p (.dK [])) := hs.newF hp (fun ps e => by cases e)
  refine h B _ σ _ sl s0 _ fun d1 M1 h1 v1 B1 H1 e1 r1 s1 => h1 B1 _ σ H1 (sl.mono e1) s1 _ fun d2 M2 h2 v2 B2 H2 e2 r2 s2 => h2 B2 _ σ H2 ((sl.mono e1).mono e2) s2 _ fun d3 M3 h3 v3 B3 H3 e3 r3 s3 => ?_
  refine ⟨(s3.f p _ upd_same).1, [(.inr k1, v1), (.inr k2, v2), (.inr k3, v3)], rfl, by simp, ?_⟩
  have s4 := s3.setF (p := p) (o := .dK []) (u := .dK (mergeK [] [(.inr k1, v1), (.inr k2, v2), (.inr k3, v3)])) upd_same trivial (fun ps e => by cases e)
  rw [upd_upd] at s4
  have rk : Rpk z B3 (mergeD [] [(.inr k1, d1), (.inr k2, d2), (.inr k3, d3)]) (mergeK [] [(.inr k1, v1), (.inr k2, v2), (.inr k3, v3)]) := Rpk.merge (.cons ((r1.mono e2).mono e3) (.cons (r2.mono e3) (.cons r3 .nil))) .nil
  have s5 := s4.ofF (p := p) (m := .dK (mergeD [] [(.inr k1, d1), (.inr k2, d2), (.inr k3, d3)])) upd_same (.dK rk)
  rw [hdel_upd hF] at s5
  exact q _ _ (h3 p (s3.f p _ upd_same).2.2) _ B3 _ ((e1.trans e2).trans e3) (.ref p) s5
/-! ### freezing a list inside a dict -/
theorem Hs.reM {B F : Hp} {H : Hp} {p : Addr} {m m' : MO} (s : Hs z B F M H) (hp : M p = some m) (k : MOk z B m' (H p)) : Hs z B F (mupd M p m') H :=
  ⟨s.b, fun a u q => ⟨(s.f a u q).1, (s.f a u q).2.1, by rw [mupd_ne (mne hp (s.f a u q).2.2).symm]; exact (s.f a u q).2.2⟩, fun a u q => by
    by_cases ha : a = p
    · subst ha
      rw [mupd_same] at q
      cases q
      exact ⟨(s.m a m hp).1, k⟩
    · rw [mupd_ne ha] at q
      exact s.m a u q, s.nb, s.nf, s.tb⟩
theorem EVS.freezeK {p a : Addr} {kvs kvs' : List (Key × D)} {ds : List D} (hp : M p = some (.dK kvs)) (ha : M a = some (.lst ds)) (hne : p ≠ a) (hl : ds.length ≤ sizeLine)
    (hk : ∀ B ws, Rp z B (.sq true ds) (.ref a) → Rpk z B kvs ws → Rpk z B kvs' ws) (h : EVS z ts Γ (mupd (mdel M a) p (.dK kvs')) E) : EVS z ts Γ M E := fun B F σ H D sl hs l => by
  obtain ⟨B2, e2, s2, r2⟩ := hs.freeze ha hl
  have hp2 : mdel M a p = some (.dK kvs) := by rw [mdel_ne hne]; exact hp
  obtain ⟨ws, hw, t⟩ := cellK s2 hp2
  exact h B2 F σ H D (sl.mono e2) (s2.reM hp2 (by rw [hw]; exact .dK (hk B2 ws r2 t))) (l.mono e2)
/-- two stores into a dict at once -/
theorem s_put2 {k1 k2 : Str} {i : Nat} (h : EV z te Γ M fun d M1 => ∃ a b p kvs, d = .sq false [a, b] ∧ Γ[i]? = some (some (.ref p)) ∧ M1 p = some (.dK kvs) ∧ kvs.length < 1000 ∧ E.nx Γ (mupd M1 p (.dK (putD (putD kvs (.inr k1) a) (.inr k2) b)))) :
    EVS z (tAsg te (gTup z.K 2 (gCons (gSub (tVar i) (tC (.str k1)) rSetD) (gCons (gSub (tVar i) (tC (.str k2)) rSetD) gNil)))) Γ M E :=
  s_asg (js := []) (h.imp fun d M1 ⟨a, b, p, kvs, e, hi, hp, hl, k⟩ => by
    subst e
    have hl1 : (putD kvs (.inr k1) a).length < sizeLine := by
      unfold putD
      split
      · rw [List.length_map]; simp only [sizeLine]; omega
      · rw [List.length_append]; simp only [sizeLine, List.length_cons, List.length_nil]; omega
    refine eg_tup (js := []) rfl (egs_cons (js := []) (ks := []) (eg_setD (ev_var hi (ev_str ⟨p, kvs, _, rfl, hp, rfl, by simp only [sizeLine]; omega, ?_⟩))))
    refine egs_cons (js := []) (ks := []) (eg_setD (ev_var hi (ev_str ⟨p, _, _, rfl, mupd_same, rfl, hl1, ?_⟩)))
    rw [mupd_mupd]
    exact egs_nil k)
end
/-! ### methods' defs; freezing inside an instance -/
def DfM (z : Cz) (C : Addr) (m qual : Str) (st : Stmt) : Prop := ∃ f fd, FunD z.K m qual (defArgs st) (defBody st) (defScope st) [] [] f fd ∧ Meth z.K C m f
def DfI (z : Cz) (C : Addr) (qual : Str) (st : Stmt) : Prop := ∃ f fd, FunD z.K "__init__" qual (defArgs st) (defBody st) (defScope st) [] [] f fd ∧ Mk z.K C f
theorem okDfM {z : Cz} {mg : Str → Option Value} {base : Heap} {C : Addr} {x qual : Str} {st : Stmt} {N ps : List Str} {k : Nat} {W : Fw} (D : DfM z C x qual st) (S : FnScope N ps (defScope st))
    (hb : ∀ (kV doc pm : Value) (an : Option Addr) (cdv ct : Value) (us : List Value), us.length = ps.length → bindArgs (PySem.W.fnOf x qual (defArgs st) (defBody st) (defScope st) .none kV doc pm an cdv ct) ⟨us, []⟩ = pure (ps.zip us))
    (len : ∀ ds M P, W ds M P → ds.length = ps.length)
    (hbody : ∀ (f : Addr) (cdv : Value) (A : Around) (outer : List Env) (s : Shared) (H : Hp) (E : XK), Room k (A.deeper (envOfC qual (defScope st) s.heap.objs.size f cdv)) → ∀ ds M P, W ds M P →
      ∃ t, PSs (cxOf CX0 z.P z.w z.K mg base N qual (defScope st) f cdv A outer s H E).nox (defBody st) t ∧ EVS z t (startG N ds) M ⟨fun _ M' => P .non M', P, fun _ _ => False, fun _ _ => False⟩) : HasM z mg base C x ps (k + 1) W := by
  obtain ⟨f, fd, F, m⟩ := D
  exact ⟨f, fd, okD F S len (hbody f), m, F.bindsN hb⟩
theorem okDfI {z : Cz} {mg : Str → Option Value} {base : Heap} {C : Addr} {qual : Str} {st : Stmt} {N ps : List Str} {k : Nat} {W : Fw} (D : DfI z C qual st) (S : FnScope N ps (defScope st))
    (hb : ∀ (kV doc pm : Value) (an : Option Addr) (cdv ct : Value) (us : List Value), us.length = ps.length → bindArgs (PySem.W.fnOf "__init__" qual (defArgs st) (defBody st) (defScope st) .none kV doc pm an cdv ct) ⟨us, []⟩ = pure (ps.zip us))
    (len : ∀ ds M P, W ds M P → ds.length = ps.length)
    (hbody : ∀ (f : Addr) (cdv : Value) (A : Around) (outer : List Env) (s : Shared) (H : Hp) (E : XK), Room k (A.deeper (envOfC qual (defScope st) s.heap.objs.size f cdv)) → ∀ ds M P, W ds M P →
      ∃ t, PSs (cxOf CX0 z.P z.w z.K mg base N qual (defScope st) f cdv A outer s H E).nox (defBody st) t ∧ EVS z t (startG N ds) M ⟨fun _ M' => P .non M', P, fun _ _ => False, fun _ _ => False⟩) : HasI z mg base C ps (k + 1) W := by
  obtain ⟨f, fd, F, m⟩ := D
  exact ⟨f, fd, okD F S len (hbody f), m, F.bindsN hb⟩
theorem HasM.mono {z : Cz} {mg : Str → Option Value} {base : Heap} {C : Addr} {x : Str} {ps : List Str} {j k : Nat} {W : Fw} (h : HasM z mg base C x ps j W) (hk : j ≤ k) : HasM z mg base C x ps k W := by
  obtain ⟨f, fd, F, r⟩ := h
  exact ⟨f, fd, F.mono hk, r⟩
theorem HasI.mono {z : Cz} {mg : Str → Option Value} {base : Heap} {C : Addr} {ps : List Str} {j k : Nat} {W : Fw} (h : HasI z mg base C ps j W) (hk : j ≤ k) : HasI z mg base C ps k W := by
  obtain ⟨f, fd, F, r⟩ := h
  exact ⟨f, fd, F.mono hk, r⟩
section
variable {z : Cz} {Γ : Gam} {M : Mem} {te : TE} {P : D → Mem → Prop} {E : PN} {ts : TS}
theorem EVS.freezeF {p a C : Addr} {fs fs' : List (Str × D)} {ds : List D} (hp : M p = some (.ins C fs)) (ha : M a = some (.lst ds)) (hne : p ≠ a) (hl : ds.length ≤ sizeLine)
    (hk : ∀ B ws, Rp z B (.sq true ds) (.ref a) → Rpf z B fs ws → Rpf z B fs' ws) (h : EVS z ts Γ (mupd (mdel M a) p (.ins C fs')) E) : EVS z ts Γ M E := fun B F σ H D sl hs l => by
  obtain ⟨B2, e2, s2, r2⟩ := hs.freeze ha hl
  have hp2 : mdel M a p = some (.ins C fs) := by rw [mdel_ne hne]; exact hp
  obtain ⟨dx, ws, hw, t⟩ := cellI s2 hp2
  exact h B2 F σ H D (sl.mono e2) (s2.reM hp2 (by rw [hw]; exact .ins (hk B2 ws r2 t))) (l.mono e2)
/-- the instance at a name stands still from now on -/
theorem EVS.freezeI (i : Nat) {p C : Addr} {fs : List (Str × D)} (hi : Γ[i]? = some (some (.ref p))) (hp : M p = some (.ins C fs)) (h : EVS z ts (Γ.set i (some (.obj C fs))) (mdel M p) E) : EVS z ts Γ M E :=
  fun B F σ H D sl hs l => by
    obtain ⟨B2, e2, s2, r2⟩ := hs.freezeI hp
    refine h B2 F σ H D ?_ s2 (l.mono e2)
    obtain ⟨v, h1, h2⟩ := sl.2 i _ hi
    have : v = .ref p := h2.ref_inv
    subst this
    have s3 := (sl.mono e2).set r2 i
    have e3 : σ.set i (some (.ref p)) = σ := by
      apply List.ext_getElem?
      intro j
      by_cases hj : i = j
      · subst hj
        rw [List.getElem?_set_self (List.getElem?_eq_some_iff.mp h1).1, h1]
      · rw [List.getElem?_set_ne hj]
    rw [e3] at s3
    exact s3
theorem EV.freezeI (h : EV z te Γ M fun d M' => ∃ p C fs, d = .ref p ∧ M' p = some (.ins C fs) ∧ P (.obj C fs) (mdel M' p)) : EV z te Γ M P :=
  fun B F σ H sl hs Q q => h B F σ H sl hs Q fun d M' ⟨p, C, fs, e, hp, k⟩ v B' H' e1 r s => by
    subst e
    obtain ⟨B2, e2, s2, r2⟩ := s.freezeI hp
    have : v = .ref p := r.ref_inv
    subst this
    exact q _ _ k _ B2 H' (e1.trans e2) r2 s2
end
/-! ### seen otherwise: a memory that may be told as another -/
def Frz (z : Cz) (m m' : Mem) : Prop := ∀ B F H, Hs z B F m H → ∃ B', Ex B B' ∧ Hs z B' F m' H
section
variable {z : Cz} {Γ : Gam} {M m m' m'' : Mem} {te : TE} {P : D → Mem → Prop} {E : PN} {ts : TS}
theorem Frz.refl : Frz z m m := fun B F H s => ⟨B, Ex.refl, s⟩
theorem Frz.trans (a : Frz z m m') (b : Frz z m' m'') : Frz z m m'' := fun B F H s => by
  obtain ⟨B1, e1, s1⟩ := a B F H s
  obtain ⟨B2, e2, s2⟩ := b B1 F H s1
  exact ⟨B2, e1.trans e2, s2⟩
theorem Frz.drop (h : ∀ a o, m' a = some o → m a = some o) : Frz z m m' := fun B F H s => ⟨B, Ex.refl, s.drop h⟩
theorem Frz.inF {p a C : Addr} {fs fs' : List (Str × D)} {ds : List D} (hp : m p = some (.ins C fs)) (ha : m a = some (.lst ds)) (hne : p ≠ a) (hl : ds.length ≤ sizeLine)
    (hk : ∀ B ws, Rp z B (.sq true ds) (.ref a) → Rpf z B fs ws → Rpf z B fs' ws) : Frz z m (mupd (mdel m a) p (.ins C fs')) := fun B F H hs => by
  obtain ⟨B2, e2, s2, r2⟩ := hs.freeze ha hl
  have hp2 : mdel m a p = some (.ins C fs) := by rw [mdel_ne hne]; exact hp
  obtain ⟨dx, ws, hw, t⟩ := cellI s2 hp2
  exact ⟨B2, e2, s2.reM hp2 (by rw [hw]; exact .ins (hk B2 ws r2 t))⟩
theorem EVS.view (h : EVS z ts Γ M ⟨fun g m => ∃ m', Frz z m m' ∧ E.nx g m', fun d m => ∃ m', Frz z m m' ∧ E.rt d m', E.bk, E.ct⟩) : EVS z ts Γ M E :=
  fun B F σ H Dd sl hs l => h B F σ H Dd sl hs ⟨fun g m ⟨m', k, p⟩ B' σ' H' e sl' s => by
    obtain ⟨B2, e2, s2⟩ := k B' F H' s
    exact l.nx g m' p B2 σ' H' (e.trans e2) (sl'.mono e2) s2, fun d m ⟨m', k, p⟩ v B' H' e r s => by
    obtain ⟨B2, e2, s2⟩ := k B' F H' s
    exact l.rt d m' p v B2 H' (e.trans e2) (r.mono e2) s2, l.bk, l.ct⟩
end
end Lv

set_option Elab.async false
set_option linter.all false
set_option maxRecDepth 100000
set_option maxHeartbeats 4000000
/-! Sc2: the scene of a tree: names, what is around each binder, uses. -/
namespace Lv
open PySem PySem.Spec PyProof.Rows L2
structure Scn where
  nm : List Str
  ar : List (List Nat)
  us : List (Str × List Nat)
def scn (t : Tr) : Scn := ⟨(bnd (fx t [] [] 0 0)).map fun e => lab e.tr, (bnd (fx t [] [] 0 0)).map En.ab, (usd (fx t [] [] 0 0)).map fun e => (lab e.tr, e.ab)⟩
/-- what a use means: the last binder of its name around it, or the name itself -/
def hits (nm : List Str) (u : Str × List Nat) : List Nat := u.2.filter fun b => decide (nm[b]? = some u.1)
def mng (nm : List Str) (u : Str × List Nat) : Key := match (hits nm u).getLast? with
  | some b => .inl (b : Nat)
  | none => .inr u.1
/-- the scene is sound -/
structure Sound (S : Scn) : Prop where
  len : S.ar.length = S.nm.length
  ok : ∀ s ∈ S.nm, OkName s
  uok : ∀ u ∈ S.us, OkName u.1
  arA : ∀ A ∈ S.ar, ∀ (i x : Nat), A[i]? = some x → S.ar[x]? = some (A.take i)
  usA : ∀ u ∈ S.us, ∀ (i x : Nat), u.2[i]? = some x → S.ar[x]? = some (u.2.take i)
  arB : ∀ (b : Nat) (A : List Nat), S.ar[b]? = some A → ∀ x ∈ A, x < b
theorem fx_ok (t : Tr) : OkT t → ∀ (An A : List Nat) (f k : Nat), ∀ e ∈ fx t An A f k, OkName (lab e.tr) ∧ OkT e.tr := by
  suffices h : ∀ n (t : Tr), nodes t ≤ n → OkT t → ∀ An A f k, ∀ e ∈ fx t An A f k, OkName (lab e.tr) ∧ OkT e.tr from h _ t (Nat.le_refl _)
  intro n
  induction n with
  | zero => intro t ht; have := nodes_pos t; omega
  | succ n ih =>
    have hl : ∀ ts : List Tr, nodesL ts ≤ n → OkTs ts → ∀ An A f k, ∀ e ∈ fxL ts An A f k, OkName (lab e.tr) ∧ OkT e.tr := by
      intro ts
      induction ts with
      | nil => intro _ _ An A f k e he; rw [fxL] at he; cases he
      | cons t ts ih2 =>
        intro h ho An A f k e he
        rw [nodesL] at h
        rw [OkTs] at ho
        rw [fxL] at he
        rcases List.mem_append.mp he with he | he
        · exact ih t (by omega) ho.1 An A f k e he
        · exact ih2 (by omega) ho.2 An A _ _ e he
    intro t ht ho An A f k e he
    cases t with
    | use n => rw [fx] at he; simp at he; subst he; have ho' := ho; rw [OkT] at ho'; exact ⟨ho', ho⟩
    | join l ts =>
      have ho' := ho
      rw [nodes] at ht; rw [fx] at he; rw [OkT] at ho'
      rcases List.mem_cons.mp he with he | he
      · subst he; exact ⟨ho'.1, ho⟩
      · exact hl ts (by omega) ho'.2 _ _ _ _ e he
    | bind m ts b =>
      have ho' := ho
      rw [nodes] at ht; rw [fx] at he; rw [OkT] at ho'
      rcases List.mem_cons.mp he with he | he
      · subst he; exact ⟨ho'.1, ho⟩
      · rcases List.mem_append.mp he with he | he
        · exact hl ts (by have := nodes_pos b; omega) ho'.2.1 _ _ _ _ e he
        · exact ih b (by omega) ho'.2.2 _ _ _ _ e he
theorem fx_fit0 (t : Tr) (e : En) (he : e ∈ fx t [] [] 0 0) : Fit (bnd (fx t [] [] 0 0)) e.an e.ab := by
  have := fx_fit t [] [] [] 0 Fit.nil e he
  exact this
/-- around a binder stand earlier binders -/
theorem fx_lt (t : Tr) : ∀ (An A : List Nat) (f k : Nat), (∀ x ∈ A, x < k) → ∀ e ∈ fx t An A f k, ∀ x ∈ e.ab, x < e.nb := by
  suffices h : ∀ n (t : Tr), nodes t ≤ n → ∀ An A f k, (∀ x ∈ A, x < k) → ∀ e ∈ fx t An A f k, ∀ x ∈ e.ab, x < e.nb from h _ t (Nat.le_refl _)
  intro n
  induction n with
  | zero => intro t ht; have := nodes_pos t; omega
  | succ n ih =>
    have hl : ∀ ts : List Tr, nodesL ts ≤ n → ∀ An A f k, (∀ x ∈ A, x < k) → ∀ e ∈ fxL ts An A f k, ∀ x ∈ e.ab, x < e.nb := by
      intro ts
      induction ts with
      | nil => intro _ An A f k _ e he; rw [fxL] at he; cases he
      | cons t ts ih2 =>
        intro h An A f k hA e he
        rw [nodesL] at h
        rw [fxL] at he
        rcases List.mem_append.mp he with he | he
        · exact ih t (by omega) An A f k hA e he
        · exact ih2 (by omega) An A _ _ (fun x hx => Nat.lt_of_lt_of_le (hA x hx) (by omega)) e he
    intro t ht An A f k hA e he
    cases t with
    | use n => rw [fx] at he; simp at he; subst he; exact hA
    | join l ts =>
      rw [nodes] at ht; rw [fx] at he
      rcases List.mem_cons.mp he with he | he
      · subst he; exact hA
      · exact hl ts (by omega) _ _ _ _ hA e he
    | bind m ts b =>
      rw [nodes] at ht; rw [fx] at he
      rcases List.mem_cons.mp he with he | he
      · subst he; exact hA
      · rcases List.mem_append.mp he with he | he
        · exact hl ts (by have := nodes_pos b; omega) _ _ _ _ (fun x hx => Nat.lt_of_lt_of_le (hA x hx) (by omega)) e he
        · refine ih b (by omega) _ _ _ _ (fun x hx => ?_) e he
          rcases List.mem_append.mp hx with hx | hx
          · exact Nat.lt_of_lt_of_le (hA x hx) (by omega)
          · simp at hx; omega
theorem bnd_nb (t : Tr) {b : Nat} {e : En} (h : (bnd (fx t [] [] 0 0))[b]? = some e) : e.nb = b := by
  have h1 := fx_nb t [] [] 0 0
  have h2 : ((bnd (fx t [] [] 0 0)).map En.nb)[b]? = some e.nb := by rw [List.getElem?_map, h]; rfl
  rw [h1] at h2
  have hl := (List.getElem?_eq_some_iff.mp h2).1
  rw [List.getElem?_range' (by simpa using hl)] at h2
  simp at h2
  exact h2.symm
theorem sound_scn {t : Tr} (ho : OkT t) : Sound (scn t) := by
  have hfit := fx_fit0 t
  have key : ∀ e ∈ fx t [] [] 0 0, ∀ (i x : Nat), e.ab[i]? = some x → (scn t).ar[x]? = some (e.ab.take i) := by
    intro e he i x hx
    obtain ⟨e', h1, h2, h3⟩ := (hfit e he).2 i x hx
    show ((bnd (fx t [] [] 0 0)).map En.ab)[x]? = _
    rw [List.getElem?_map, h1, ← h2]; rfl
  refine ⟨by simp [scn], ?_, ?_, ?_, ?_, ?_⟩
  · intro s hs
    obtain ⟨e, he, rfl⟩ := List.mem_map.mp hs
    exact (fx_ok t ho _ _ _ _ e (List.mem_filter.mp he).1).1
  · intro u hu
    obtain ⟨e, he, rfl⟩ := List.mem_map.mp hu
    exact (fx_ok t ho _ _ _ _ e (List.mem_filter.mp he).1).1
  · intro A hA
    obtain ⟨e, he, rfl⟩ := List.mem_map.mp hA
    exact key e (List.mem_filter.mp he).1
  · intro u hu
    obtain ⟨e, he, rfl⟩ := List.mem_map.mp hu
    exact key e (List.mem_filter.mp he).1
  · intro b A hA x hx
    have hA' : ((bnd (fx t [] [] 0 0)).map En.ab)[b]? = some A := hA
    rw [List.getElem?_map] at hA'
    cases q : (bnd (fx t [] [] 0 0))[b]? with
    | none => rw [q] at hA'; cases hA'
    | some e =>
      rw [q] at hA'
      cases hA'
      have := fx_lt t [] [] 0 0 (fun x hx => nomatch hx) e (List.mem_filter.mp (List.mem_of_getElem? q)).1 x hx
      rw [bnd_nb t q] at this
      exact this
/-- a node's number among the binders' nodes -/
theorem idx_ok (t : Tr) {e : En} (he : e ∈ fx t [] [] 0 0) {i x y : Nat} (hx : e.ab[i]? = some x) (hy : e.an[i]? = some y) : ((bnd (fx t [] [] 0 0)).map En.ix)[x]? = some y := by
  obtain ⟨e', h1, h2, h3⟩ := (fx_fit0 t e he).2 i x hx
  rw [List.getElem?_map, h1]
  rw [hy] at h3
  exact h3.symm
theorem ix_inj (t : Tr) : ∀ (a b y : Nat), ((bnd (fx t [] [] 0 0)).map En.ix)[a]? = some y → ((bnd (fx t [] [] 0 0)).map En.ix)[b]? = some y → a = b := by
  have hp : ((bnd (fx t [] [] 0 0)).map En.ix).Pairwise (· < ·) := by
    have h1 : ((fx t [] [] 0 0).map En.ix).Pairwise (· < ·) := by rw [fx_ix]; exact List.pairwise_lt_range'
    exact h1.sublist (List.filter_sublist.map _)
  intro a b y ha hb
  have la := (List.getElem?_eq_some_iff.mp ha)
  have lb := (List.getElem?_eq_some_iff.mp hb)
  obtain ⟨la, ea⟩ := la
  obtain ⟨lb, eb⟩ := lb
  rw [List.pairwise_iff_getElem] at hp
  rcases Nat.lt_trichotomy a b with h | h | h
  · have := hp a b la lb h; omega
  · exact h
  · have := hp b a lb la h; omega
theorem fx_anl (t : Tr) : ∀ (An A : List Nat) (f k : Nat), ∀ e ∈ fx t An A f k, e.an.length ≤ An.length + nodes t := by
  suffices h : ∀ n (t : Tr), nodes t ≤ n → ∀ An A f k, ∀ e ∈ fx t An A f k, e.an.length ≤ An.length + nodes t from h _ t (Nat.le_refl _)
  intro n
  induction n with
  | zero => intro t ht; have := nodes_pos t; omega
  | succ n ih =>
    have hl : ∀ ts : List Tr, nodesL ts ≤ n → ∀ An A f k, ∀ e ∈ fxL ts An A f k, e.an.length ≤ An.length + nodesL ts := by
      intro ts
      induction ts with
      | nil => intro _ An A f k e he; rw [fxL] at he; cases he
      | cons t ts ih2 =>
        intro h An A f k e he
        rw [nodesL] at h ⊢
        rw [fxL] at he
        rcases List.mem_append.mp he with he | he
        · have := ih t (by omega) An A f k e he; omega
        · have := ih2 (by omega) An A _ _ e he; omega
    intro t ht An A f k e he
    cases t with
    | use n => rw [fx] at he; simp at he; subst he; exact Nat.le_add_right _ _
    | join l ts =>
      rw [nodes] at ht ⊢; rw [fx] at he
      rcases List.mem_cons.mp he with he | he
      · subst he; exact Nat.le_add_right _ _
      · have := hl ts (by omega) _ _ _ _ e he; omega
    | bind m ts b =>
      rw [nodes] at ht ⊢; rw [fx] at he
      rcases List.mem_cons.mp he with he | he
      · subst he; exact Nat.le_add_right _ _
      · rcases List.mem_append.mp he with he | he
        · have := hl ts (by have := nodes_pos b; omega) _ _ _ _ e he; omega
        · have := ih b (by omega) _ _ _ _ e he
          rw [List.length_append] at this
          simp at this
          omega
theorem putD_new {kvs : List (Key × D)} {k : Key} {v : D} (h : ∀ e ∈ kvs, e.1 ≠ k) : putD kvs k v = kvs ++ [(k, v)] := by
  unfold putD
  rw [if_neg]
  rw [List.any_eq_true]
  rintro ⟨e, he, hk⟩
  exact h e he (of_decide_eq_true hk)
theorem valD_hit {kvs : List (Key × D)} {k : Key} {v : D} : valD ((k, v) :: kvs) k = some v := by
  unfold valD
  rw [List.find?_cons]
  simp
theorem valD_skip {kvs : List (Key × D)} {k k' : Key} {v : D} (h : k' ≠ k) : valD ((k', v) :: kvs) k = valD kvs k := by
  unfold valD
  rw [List.find?_cons]
  simp [h]
end Lv

set_option Elab.async false
set_option linter.all false
set_option maxRecDepth 100000
set_option maxHeartbeats 4000000
/-! Sc3: wishers, mates, prices, the kept ones, over lists of live things. -/
namespace Lv
open PySem PySem.Spec PyProof.Rows L2
instance keyMem (x : Key) (xs : List Key) : Decidable (x ∈ xs) := @List.instDecidableMemOfLawfulBEq Key instBEqOfDecidableEq inferInstance x xs
def dW : Option Str → D
  | none => .non
  | some s => .str s
abbrev Lvs := List (List Key)
def dLv (lv : Lvs) : D := .sq true (lv.map fun ks => .sq true (ks.map kD))
def dNat (xs : List Nat) : D := .sq true (xs.map fun i => .int (i : Nat))
def sel (W : List (Option Str)) (c : Nat → Str → Bool) : List Nat := (W.zipIdx.filter fun p => match p.1 with | some s => c p.2 s | none => false).map (·.2)
def keptB (W : List (Option Str)) (xs : List Str) : List Nat := sel W fun b s => decide (some s = xs[b]?)
def wishers (lv : Lvs) (W : List (Option Str)) : List Nat := sel W fun b s => !decide (Sum.inr s ∈ lv.getD b [])
def matesOf (lv : Lvs) (W : List (Option Str)) (b : Nat) (some : List Nat) : List Nat := some.filter fun c => decide (c ≠ b) && (decide (W.getD c none = W.getD b none) && decide (Sum.inl (b : Int) ∈ lv.getD c []))
def priceStep (lv : Lvs) (W : List (Option Str)) (V : List Int) (p : List Int) (b : Nat) : List Int :=
  p.set b (max 0 (V.getD b 0 - ((matesOf lv W b (wishers lv W)).map fun c => p.getD c 0).sum))
def prices (lv : Lvs) (W : List (Option Str)) (V : List Int) : List Int := (wishers lv W).reverse.foldl (priceStep lv W V) (V.map fun _ => 0)
def hurt (lv : Lvs) (W : List (Option Str)) (found : List Nat) (b : Nat) : List Nat := found.filter fun c => decide (W.getD c none = W.getD b none) && decide (Sum.inl (c : Int) ∈ lv.getD b [])
def keepStep (lv : Lvs) (W : List (Option Str)) (p : List Int) (found : List Nat) (b : Nat) : List Nat := if 0 < p.getD b 0 ∧ (hurt lv W found b).isEmpty = true then found ++ [b] else found
def kept (lv : Lvs) (W : List (Option Str)) (V : List Int) : List Nat := (wishers lv W).foldl (keepStep lv W (prices lv W V)) []
theorem eqV_kD (a b : Key) : eqV (fv (kD a)) (fv (kD b)) = decide (a = b) := by
  cases a with
  | inl i => cases b with
    | inl j => show ((i == j) : Bool) = _; by_cases h : i = j <;> simp [h]
    | inr s => show false = _; simp
  | inr s => cases b with
    | inl j => show false = _; simp
    | inr t => show ((s == t) : Bool) = _; by_cases h : s = t <;> simp [h]
theorem inD_key {x : Key} {xs : List Key} : inD (kD x) (xs.map kD) = decide (x ∈ xs) := by
  unfold inD
  induction xs with
  | nil => rfl
  | cons y ys ih =>
    rw [List.map_cons, List.any_cons, ih, eqV_kD]
    by_cases e : y = x
    · subst e; simp
    · simp [e, Ne.symm e]
theorem flat_key (xs : List Key) : (xs.map kD).all flatD = true := flat_map (fun x => by cases x <;> rfl) xs
theorem inD_nat {x : Nat} {xs : List Nat} : inD (.int (x : Nat)) (xs.map fun i => D.int (i : Nat)) = decide (x ∈ xs) := by
  unfold inD
  induction xs with
  | nil => rfl
  | cons y ys ih =>
    rw [List.map_cons, List.any_cons, ih]
    show (((y : Int) == (x : Int)) || _) = _
    by_cases e : y = x
    · subst e; simp
    · have : ((y : Int) == (x : Int)) = false := by simp; omega
      rw [this]
      simp [Ne.symm e]
theorem flat_nat (xs : List Nat) : (xs.map fun i => D.int (i : Nat)).all flatD = true := flat_map (fun x => rfl) xs
theorem sel_mem {W : List (Option Str)} {c : Nat → Str → Bool} {b : Nat} : b ∈ sel W c ↔ ∃ s, W[b]? = some (some s) ∧ c b s = true := by
  unfold sel
  constructor
  · intro h
    obtain ⟨p, hp, rfl⟩ := List.mem_map.mp h
    obtain ⟨h1, h2⟩ := List.mem_filter.mp hp
    obtain ⟨w, i⟩ := p
    have h3 := List.mem_zipIdx_iff_getElem?.mp h1
    cases w with
    | none => cases h2
    | some s => exact ⟨s, h3, h2⟩
  · rintro ⟨s, h1, h2⟩
    exact List.mem_map.mpr ⟨(some s, b), List.mem_filter.mpr ⟨List.mem_zipIdx_iff_getElem?.mpr h1, h2⟩, rfl⟩
theorem sel_sorted (W : List (Option Str)) (c : Nat → Str → Bool) : (sel W c).Pairwise (· < ·) := by
  unfold sel
  have h1 : (W.zipIdx.map (·.2)).Pairwise (· < ·) := by
    rw [show (W.zipIdx.map (·.2)) = List.range' 0 W.length from List.zipIdx_map_snd 0 W]
    exact List.pairwise_lt_range'
  exact h1.sublist (List.filter_sublist.map _)
theorem sel_lt {W : List (Option Str)} {c : Nat → Str → Bool} {b : Nat} (h : b ∈ sel W c) : b < W.length := by
  obtain ⟨s, h1, _⟩ := sel_mem.mp h
  exact (List.getElem?_eq_some_iff.mp h1).1
theorem sel_len (W : List (Option Str)) (c : Nat → Str → Bool) : (sel W c).length ≤ W.length := by
  unfold sel
  rw [List.length_map]
  exact Nat.le_trans (List.length_filter_le _ _) (by rw [List.length_zipIdx]; exact Nat.le_refl _)
theorem priceStep_len {lv : Lvs} {W : List (Option Str)} {V p : List Int} {b : Nat} : (priceStep lv W V p b).length = p.length := by unfold priceStep; rw [List.length_set]
theorem prices_len {lv : Lvs} {W : List (Option Str)} {V : List Int} : (prices lv W V).length = V.length := by
  unfold prices
  have : ∀ (bs : List Nat) (p : List Int), (bs.foldl (priceStep lv W V) p).length = p.length := by
    intro bs
    induction bs with
    | nil => intro p; rfl
    | cons b bs ih => intro p; rw [List.foldl_cons, ih, priceStep_len]
  rw [this, List.length_map]
theorem foldl_take_succ {α β : Type} {f : β → α → β} {xs : List α} {b : β} {i : Nat} {x : α} (h : xs[i]? = some x) : (xs.take (i + 1)).foldl f b = f ((xs.take i).foldl f b) x := by
  rw [List.take_add_one, h, List.foldl_append]
  rfl
end Lv

set_option Elab.async false
set_option linter.all false
set_option maxRecDepth 100000
set_option maxHeartbeats 4000000
set_option pp.maxSteps 400
set_option pp.deepTerms false
namespace Lv
open PySem PySem.Spec PyProof.Rows L2 StX
local macro_rules
  | `(tactic| walk_at "lv1") => `(tactic| with_reducible (first
    | refine s_set ?_ | refine s_ret ?_ | refine s_if ?_ | refine s_drop ?_ | refine s_next ?_ | refine s_par ?_ | refine s_par3 ?_ | refine s_subL ?_ | refine s_unl2 ?_ | refine s_tup2 ?_ | refine eg_unl2 ?_ | refine eg_unl3 ?_ | refine eg_tup2 ?_
    | refine ev_var rfl ?_ | refine ev_int ?_ | refine ev_str ?_ | refine ev_bl ?_ | refine ev_non ?_ | refine ev_ref ?_
    | refine ev_lst0 ?_ | refine ev_eqE ?_ | refine ev_neE ?_ | refine ev_op ?_ | refine ev_un ?_ | refine ev_isiLT ?_ | refine ev_isi ?_ | refine ev_cb ?_ | refine ev_chain ?_ | refine ev_andV ?_ | refine ev_orV ?_ | refine ev_notV ?_ | refine ev_if ?_ | refine ev_tup ?_ | refine ev_call ?_
    | refine et_and ?_ | refine et_or ?_ | refine et_not ?_ | refine et_test ?_ | refine et_b ?_ | refine et_yes ?_
    | refine ea_cons ?_ | refine ea_nil ?_
    | refine g_int2 ?_ | refine g_bl ?_ | refine g_int ?_ | refine g_addI ?_ | refine g_eqI ?_ | refine g_eqSt ?_ | refine g_eqSf (by decide +kernel) ?_ | refine g_eqS ?_ | refine g_eqIS ?_ | refine g_eqSI ?_ | refine g_eqNS ?_ | refine g_isn ?_
    | refine g_par ?_ | refine g_par3 ?_ | refine g_neg ?_
    | refine g_ifT ?_ | refine g_ifNT ?_ | refine g_ifNF ?_ | refine g_ifF ?_ | refine g_ifD ?_ ?_ | refine g_ifDN ?_ ?_
    | refine eg_name ?_ | refine eg_setL ?_))
local macro_rules
  | `(tactic| walk_at "lvM") => `(tactic| first | assumption | exact mupd_same)
local macro_rules
  | `(tactic| walk_at "lvW") => `(tactic| with_unfolding_all rfl)
local macro_rules
  | `(tactic| walk_at "lvA") => `(tactic| first | with_unfolding_all rfl | with_unfolding_all exact atI_nat 0 rfl | with_unfolding_all exact atI_nat 1 rfl)
local macro_rules
  | `(tactic| walk_at "lv2") => `(tactic| with_reducible (first
    | refine ⟨_, _, (by walk_at "lvW"), kb_ii, ?_⟩ | refine ⟨_, _, (by walk_at "lvW"), kb_ib, ?_⟩ | refine ⟨_, _, (by walk_at "lvW"), kb_is, ?_⟩ | refine ⟨_, _, (by walk_at "lvW"), kb_ss, ?_⟩ | refine ⟨_, _, (by walk_at "lvW"), kb_tt, ?_⟩
    | refine .inl ⟨_, _, rfl, IsS.q, ?_⟩ | refine .inl ⟨_, _, rfl, IsS.r (by walk_at "lvM"), ?_⟩ | refine .inl ⟨_, _, rfl, IsS.sc, ?_⟩
    | refine .inl ⟨_, _, IsS.q, (by walk_at "lvA"), ?_⟩ | refine .inl ⟨_, _, IsS.r (by walk_at "lvM"), (by walk_at "lvA"), ?_⟩
    | refine .inl (g_int2 (And.intro (CMul.l (by omega) (by omega)) ?_)) | refine .inl (g_int2 (And.intro (CMul.r (by omega) (by omega)) ?_))
    | refine And.intro (CDiv.mk (by omega) (by omega)) ?_ | refine And.intro (by omega) ?_ | refine And.intro (Nat.le_of_ble_eq_true (by walk_at "lvW")) ?_
    | refine .inl ⟨_, _, rfl, ?_⟩
    | refine .inl ⟨_, rfl, ?_⟩ | refine .inr ⟨_, rfl, ?_⟩
    | refine ⟨_, _, _, _, rfl, (by walk_at "lvM"), rfl, (by walk_at "lvW"), ?_⟩
    | refine ⟨_, _, rfl, IsL.q, ?_⟩
    | refine ⟨_, rfl, .inl ⟨_, _, IsS.q, (by walk_at "lvA"), ?_⟩⟩))
local macro_rules
  | `(tactic| walk_at "lvm") => `(tactic| repeat' (first | walk_at "lv1" | (with_reducible refine s_seq ?_) | walk_at "lv2" | dsimp only))
local macro_rules
  | `(tactic| walk_at "lve") => `(tactic| repeat' (first | walk_at "lv1" | (with_reducible refine ev_lst ?_) | walk_at "lv2" | dsimp only))
local macro_rules
  | `(tactic| walk_at "lv") => `(tactic| repeat' (first | walk_at "lv1" | (with_reducible refine ev_lst ?_) | (with_reducible refine s_seq ?_) | walk_at "lv2" | dsimp only))
local macro_rules
  | `(tactic| walk_at "lve0") => `(tactic| repeat' (first
    | (with_reducible first | refine ev_var rfl ?_ | refine ev_int ?_ | refine ev_str ?_ | refine et_test ?_ | refine ev_eqE ?_ | refine ev_op ?_ | refine g_bl ?_ | refine g_eqI ?_ | refine g_eqSt ?_ | refine g_eqSf (by decide +kernel) ?_ | refine g_eqS ?_ | refine g_int ?_ | refine g_ifT ?_ | refine g_ifF ?_ | refine g_ifD ?_ ?_) | walk_at "lv2" | dsimp only))
local macro_rules
  | `(tactic| walk_at "lvx") => `(tactic| repeat' (first | (refine fun hx => absurd hx ?_; (with_reducible fail_if_success assumption); simp; done) | (refine fun _ => ?_; walk_at "lv")))
def W_is_whole : Fw := fun ds M P => ∃ i, ds = [.int i] ∧ P (.bl true) M
def N_is_whole : List Str := ["value"]
def P_is_whole : List Str := ["value"]
theorem sc_is_whole : FnScope N_is_whole P_is_whole (defScope s_is_whole) := ⟨rfl, rfl, rfl, by decide +kernel, rfl, by decide +kernel, by decide +kernel⟩
theorem h_is_whole {z : Cz} {mg : Str → Option Value} {base : Heap} {CF CT : Addr} (G : Gf z mg CF CT) (Dd : Df z mg "is_whole" s_is_whole)  : Has z mg base "is_whole" P_is_whole (0 + 1) (W_is_whole) := by
  refine okDf Dd sc_is_whole (fun _ _ _ _ _ _ us hl => match us, hl with | [_], _ => rfl) (fun ds M P hw => ?_) (fun f cdv A outer s H E hr ds M P hw => ?_)
  · obtain ⟨i, rfl, _⟩ := hw
    rfl
  obtain ⟨i, rfl, k⟩ := hw
  refine ⟨_, (pss_one (ps_ret (pe_and (pe_callB (zc_isi z) rfl G.isinstance boot_isinstance (pa_cons (pv 0) (pa_cons (px_ty G.int boot_int rfl) pa_nil))) (pe_one (pe_not (pe_callB (zc_isi z) rfl G.isinstance boot_isinstance (pa_cons (pv 0) (pa_cons (px_ty G.bool boot_bool2 rfl) pa_nil)))))))), ?_⟩
  walk_at "lv"
  exact k
def W_is_number : Fw := fun ds M P => ∃ i lo hi, ds = [.int i, .int lo, .int hi] ∧ lo ≤ i ∧ i ≤ hi ∧ P (.bl true) M
def N_is_number : List Str := ["value", "low", "high"]
def P_is_number : List Str := ["value", "low", "high"]
theorem sc_is_number : FnScope N_is_number P_is_number (defScope s_is_number) := ⟨rfl, rfl, rfl, by decide +kernel, rfl, by decide +kernel, by decide +kernel⟩
theorem h_is_number {z : Cz} {mg : Str → Option Value} {base : Heap} {CF CT : Addr} (G : Gf z mg CF CT) (Dd : Df z mg "is_number" s_is_number) (H_is_whole : Has z mg base "is_whole" P_is_whole 1 W_is_whole) : Has z mg base "is_number" P_is_number (1 + 1) (W_is_number) := by
  refine okDf Dd sc_is_number (fun _ _ _ _ _ _ us hl => match us, hl with | [_, _, _], _ => rfl) (fun ds M P hw => ?_) (fun f cdv A outer s H E hr ds M P hw => ?_)
  · obtain ⟨i, lo, hi, rfl, _⟩ := hw
    rfl
  obtain ⟨i, lo, hi, rfl, h1, h2, k⟩ := hw
  refine ⟨_, (pss_one (ps_ret (pe_and (px_call H_is_whole (hr.mono (by omega)) rfl (pa_cons (pv 0) pa_nil)) (pe_one (pe_chain ox_le ox_le (pv 1) (pv 0) (pv 2)))))), ?_⟩
  walk_at "lv"
  refine ⟨_, rfl, ?_⟩
  walk_at "lv"
  · intro _; walk_at "lv"
    rw [decide_eq_true h2]; exact k
  · exact fun hb => absurd h1 hb
theorem filtT {α : Type} (xs : List α) : xs.filter (fun _ => true) = xs := List.filter_eq_self.mpr fun _ _ => rfl
def W_is_name : Fw := fun ds M P => ∃ s, ds = [.str s] ∧ OkName s ∧ P (.bl true) M
def N_is_name : List Str := ["value", "sign"]
def P_is_name : List Str := ["value"]
theorem sc_is_name : FnScope N_is_name P_is_name (defScope s_is_name) := ⟨rfl, rfl, rfl, by decide +kernel, rfl, by decide +kernel, by decide +kernel⟩
theorem h_is_name {z : Cz} {mg : Str → Option Value} {base : Heap} {CF CT : Addr} (G : Gf z mg CF CT) (Dd : Df z mg "is_name" s_is_name)  : Has z mg base "is_name" P_is_name (0 + 1) (W_is_name) := by
  refine okDf Dd sc_is_name (fun _ _ _ _ _ _ us hl => match us, hl with | [_], _ => rfl) (fun ds M P hw => ?_) (fun f cdv A outer s H E hr ds M P hw => ?_)
  · obtain ⟨s, rfl, _⟩ := hw
    rfl
  obtain ⟨s, rfl, h, k⟩ := hw
  refine ⟨_, (pss_cons (ps_if (PW.pt (pw_or (pt_not (pt_val (pe_callB (zc_isi z) rfl G.isinstance boot_isinstance (pa_cons (pv 0) (pa_cons (px_ty G.str boot_str2 rfl) pa_nil))))) (pw_or1 (pt_not (pt_chain ox_le ox_le pe_int (pe_callB (zc_len z) rfl G.len boot_len (pa_cons (pv 0) pa_nil)) (px_gint G.mletters rfl)))))) (pss_one (ps_ret pe_bl)) pss_nil) (pss_one (ps_ret (pe_callB (zc_all z) rfl G.all boot_all (pa_cons (pe_lc (own := [("sign", 1)]) rfl sc_is_name.nd (pi_str (pv 0)) (blkOk_by (N := N_is_name) (sc := defScope s_is_name) (by decide +kernel)) (fun _ _ _ _ _ => (pg_name (i := 1) sc_is_name.nd rfl (.inl rfl))) (fun _ _ _ _ _ => pts_nil) (fun _ _ _ _ _ => (pe_cmpR ox_inSign (pv 1) (px_gstr G.letters rfl) (by with_unfolding_all rfl)))) pa_nil))))), ?_⟩
  obtain ⟨h1, h2, h3⟩ := h
  walk_at "lv"
  refine ⟨by simp only [sizeLine]; omega, ?_⟩
  walk_at "lv"
  · intro _
    walk_at "lv"
    · exact fun hb => absurd (by omega : (s.length : Int) ≤ 8) hb
    · intro _; walk_at "lv"
      refine ev_lcP [1] ?_ (fun _ => true) (fun _ => .bl true) ?_
      · intro j hj; simpa using hj
      refine ei_str (ev_var rfl ⟨s, rfl, ?_⟩)
      have hsz : (signs s).length = s.length := by simp [signs, Str.length]
      refine ⟨by rw [hsz]; simp only [sizeLine]; omega, trivial, fun i x hx => ?_, ?_⟩
      · unfold signs at hx
        rw [List.getElem?_map] at hx
        cases q : s.cps.toList[i]? with
        | none => rw [q] at hx; cases hx
        | some c =>
          rw [q] at hx
          cases hx
          have hc : c ∈ abc.cps.toList := h3 c (List.mem_of_getElem? q)
          walk_at "lv"
          refine ⟨rfl, ?_⟩
          walk_at "lv"
          refine ⟨rfl, rfl, fun _ => ?_⟩
          walk_at "lv"
          refine ⟨c, _, rfl, rfl, ?_, rfl⟩
          exact congrArg D.bl (decide_eq_true hc)
      · refine ⟨by rw [List.length_map, filtT, hsz]; simp only [sizeLine]; omega, .inl ?_⟩
        walk_at "lv"
        refine ⟨_, (signs s).map fun _ => true, rfl, .inl (by rw [filtT, List.map_map]; rfl), ?_⟩
        have : ((signs s).map fun _ => true).all id = true := by rw [List.all_map, List.all_eq_true]; intro x _; rfl
        rw [this]
        exact k
  · exact fun hb => absurd (by omega : (1 : Int) ≤ s.length) hb
def W_is_line : Fw := fun ds M P => ∃ k es, ds = [.sq k es] ∧ P (.bl true) M
def N_is_line : List Str := ["value"]
def P_is_line : List Str := ["value"]
theorem sc_is_line : FnScope N_is_line P_is_line (defScope s_is_line) := ⟨rfl, rfl, rfl, by decide +kernel, rfl, by decide +kernel, by decide +kernel⟩
theorem h_is_line {z : Cz} {mg : Str → Option Value} {base : Heap} {CF CT : Addr} (G : Gf z mg CF CT) (Dd : Df z mg "is_line" s_is_line)  : Has z mg base "is_line" P_is_line (0 + 1) (W_is_line) := by
  refine okDf Dd sc_is_line (fun _ _ _ _ _ _ us hl => match us, hl with | [_], _ => rfl) (fun ds M P hw => ?_) (fun f cdv A outer s H E hr ds M P hw => ?_)
  · obtain ⟨k, es, rfl, _⟩ := hw
    rfl
  obtain ⟨k, es, rfl, q⟩ := hw
  refine ⟨_, (pss_one (ps_ret (pe_callB (zc_isiT z) rfl G.isinstance boot_isinstance (pa_cons (pv 0) (pa_cons (pe_tup (pa_cons (px_ty G.list boot_list rfl) (pa_cons (px_ty G.tuple boot_tuple rfl) pa_nil))) pa_nil))))), ?_⟩
  walk_at "lv"
  exact ⟨k, es, rfl, q⟩
def unlike (xs : List D) : List D := xs.foldl (fun acc x => if inD x acc = true then acc else acc ++ [x]) []
def W_law_pool : Fw := fun ds M P => ∃ (ns : List Int) (k : Nat), ds = [.scr ns, .int (k : Nat)] ∧ k < 6 ∧ ∀ a b : Int, 0 ≤ a → 0 ≤ b → b < 2147483647 → ∀ p, M p = none → P (.ref p) (mupd M p (.lst [.int a, .int b]))
def N_law_pool : List Str := ["_law_script", "_law_k", "_law_cell", "_law_big", "_law_mixed"]
def P_law_pool : List Str := ["_law_script", "_law_k"]
theorem sc_law_pool : FnScope N_law_pool P_law_pool (defScope s_law_pool) := ⟨rfl, rfl, rfl, by decide +kernel, rfl, by decide +kernel, by decide +kernel⟩
theorem h_law_pool {z : Cz} {mg : Str → Option Value} {base : Heap} {CF CT : Addr} (G : Gf z mg CF CT) (Dd : Df z mg "_law_pool" s_law_pool)  : Has z mg base "_law_pool" P_law_pool (0 + 1) (W_law_pool) := by
  refine okDf Dd sc_law_pool (fun _ _ _ _ _ _ us hl => match us, hl with | [_, _], _ => rfl) (fun ds M P hw => ?_) (fun f cdv A outer s H E hr ds M P hw => ?_)
  · obtain ⟨ns, k, rfl, _⟩ := hw
    rfl
  obtain ⟨ns, k, rfl, hk, q⟩ := hw
  refine ⟨_, (pss_cons (ps_set (i := 2) sc_law_pool.nd rfl (.inl rfl) pe_int) (pss_cons (ps_if (pt_cmpR ox_lt (pv 1) (pe_callB (zc_len z) rfl G.len boot_len (pa_cons (pv 0) pa_nil)) (nomark _)) (pss_one (ps_set (i := 2) sc_law_pool.nd rfl (.inl rfl) (zx_ix z (pv 0) (pv 1)))) pss_nil) (pss_cons (ps_set (i := 3) sc_law_pool.nd rfl (.inl rfl) (pe_callB (zc_max z) rfl G.max boot_max (pa_cons (pe_callTy (cx_int) rfl G.int boot_int (pa_cons (pv 2) pa_nil)) (pa_cons (pe_callTy (cx_int) rfl G.int boot_int (pa_cons (pe_op ox_sub (pe_un ox_neg pe_int) (pv 2)) pa_nil)) pa_nil)))) (pss_cons (ps_set (i := 4) sc_law_pool.nd rfl (.inl rfl) (pe_op ox_mod (pe_callTy (cx_int) rfl G.int boot_int (pa_cons (pe_op ox_mul (pe_op ox_add (pe_op ox_add (pe_op ox_add (pe_op ox_mod (pe_callTy (cx_int) rfl G.int boot_int (pa_cons (pv 3) pa_nil)) pe_int) (pe_op ox_mul (pe_op ox_mul pe_int (pv 1)) (pv 1))) (pe_op ox_mul pe_int (pv 1))) pe_int) pe_int) pa_nil)) pe_int)) (pss_one (ps_ret (pe_lst (pa_cons (pe_op ox_mul (pv 3) (pe_callTy (cx_int) rfl G.int boot_int (pa_cons (pe_cmpR ox_ge (pv 3) (pe_op ox_pow pe_int pe_int) (nomark _)) pa_nil))) (pa_cons (pv 4) pa_nil))))))))), ?_⟩
  refine s_seq ?_
  walk_at "lve"
  refine s_seqI (fun γ m => ∃ c : Int, γ = [some (.scr ns), some (.int (k : Nat)), some (.int c), none, none] ∧ m = M) ?_ ?_
  · walk_at "lv"
    · intro hb; walk_at "lv"
      have hl : k < ns.length := by simpa using hb
      exact .inl ⟨_, .int ns[k], .inr (.inr ⟨_, rfl, rfl⟩), atI_nat k (by simp [hl]), _, rfl, rfl⟩
    · intro hb; walk_at "lv"
      exact ⟨0, rfl, rfl⟩
  · rintro γ m ⟨c, rfl, rfl⟩
    walk_at "lvm"
    refine ev_lstM ?_
    walk_at "lvm"
    refine ⟨⟨by omega, by omega, by decide⟩, ?_⟩
    walk_at "lv"
    generalize hu : (if -1 - c > c then -1 - c else c) = u
    have hu0 : 0 ≤ u := by rw [← hu]; split <;> omega
    rw [show ((10 : Int) ^ Int.toNat 18) = 1000000000000000000 by decide]
    intro p hp
    refine q _ _ ?_ ?_ ?_ p hp
    · exact Int.mul_nonneg hu0 (by split <;> omega)
    · omega
    · omega
def W_law_take : Fw := fun ds M P => ∃ (p : Addr) (a b t : Int), ds = [.ref p, .int t] ∧ M p = some (.lst [.int a, .int b]) ∧ 0 ≤ a ∧ 0 ≤ b ∧ b < 2147483647 ∧ 0 < t ∧ t < 1000000 ∧ ∀ r a' b' : Int, 0 ≤ r → r < t → 0 ≤ a' → 0 ≤ b' → b' < 2147483647 → P (.int r) (mupd M p (.lst [.int a', .int b']))
def N_law_take : List Str := ["_law_source", "_law_top", "_law_told"]
def P_law_take : List Str := ["_law_source", "_law_top"]
theorem sc_law_take : FnScope N_law_take P_law_take (defScope s_law_take) := ⟨rfl, rfl, rfl, by decide +kernel, rfl, by decide +kernel, by decide +kernel⟩
theorem h_law_take {z : Cz} {mg : Str → Option Value} {base : Heap} {CF CT : Addr} (G : Gf z mg CF CT) (Dd : Df z mg "_law_take" s_law_take)  : Has z mg base "_law_take" P_law_take (0 + 1) (W_law_take) := by
  refine okDf Dd sc_law_take (fun _ _ _ _ _ _ us hl => match us, hl with | [_, _], _ => rfl) (fun ds M P hw => ?_) (fun f cdv A outer s H E hr ds M P hw => ?_)
  · obtain ⟨p, a, b, t, rfl, _⟩ := hw
    rfl
  obtain ⟨p, a, b, t, rfl, hp, ha, hb, hb2, ht, ht2, k⟩ := hw
  refine ⟨_, (pss_cons (ps_if (pt_cmpR ox_gt (zx_ix z (pv 0) pe_int) pe_int (nomark _)) (pss_cons (ps_set (i := 2) sc_law_take.nd rfl (.inl rfl) (pe_op ox_mod (pe_callTy (cx_int) rfl G.int boot_int (pa_cons (zx_ix z (pv 0) pe_int) pa_nil)) (pv 1))) (pss_cons (ps_asg (pe_op ox_fdiv (zx_ix z (pv 0) pe_int) (pv 1)) (pg_sub (pv 0) pe_int set_list)) (pss_one (ps_ret (pv 2))))) pss_nil) (pss_cons (ps_asg (pe_op ox_mod (pe_callTy (cx_int) rfl G.int boot_int (pa_cons (pe_op ox_add (pe_op ox_mul (zx_ix z (pv 0) pe_int) pe_int) pe_int) pa_nil)) pe_int) (pg_sub (pv 0) pe_int set_list)) (pss_one (ps_ret (pe_op ox_mod (pe_callTy (cx_int) rfl G.int boot_int (pa_cons (pe_op ox_fdiv (pe_op ox_mod (pe_callTy (cx_int) rfl G.int boot_int (pa_cons (pe_op ox_mul (zx_ix z (pv 0) pe_int) (zx_ix z (pv 0) pe_int)) pa_nil)) pe_int) pe_int) pa_nil)) (pv 1)))))), ?_⟩
  walk_at "lv"
  · intro hc; walk_at "lv"
    exact k _ _ _ (Int.emod_nonneg _ (by omega)) (Int.emod_lt_of_pos _ ht) (Int.ediv_nonneg ha (by omega)) hb hb2
  · intro hc; walk_at "lv"
    exact k _ _ _ (Int.emod_nonneg _ (by omega)) (Int.emod_lt_of_pos _ ht) ha (by omega) (by omega)
def W_law_one : Fw := fun ds M P => ∃ (p : Addr) (a b : Int) (xs : List D), ds = [.ref p, .sq true xs] ∧ M p = some (.lst [.int a, .int b]) ∧ 0 ≤ a ∧ 0 ≤ b ∧ b < 2147483647 ∧ 0 < xs.length ∧ xs.length < 1000000 ∧ ∀ x (a' b' : Int), x ∈ xs → 0 ≤ a' → 0 ≤ b' → b' < 2147483647 → P x (mupd M p (.lst [.int a', .int b']))
def N_law_one : List Str := ["_law_source", "_law_things"]
def P_law_one : List Str := ["_law_source", "_law_things"]
theorem sc_law_one : FnScope N_law_one P_law_one (defScope s_law_one) := ⟨rfl, rfl, rfl, by decide +kernel, rfl, by decide +kernel, by decide +kernel⟩
theorem h_law_one {z : Cz} {mg : Str → Option Value} {base : Heap} {CF CT : Addr} (G : Gf z mg CF CT) (Dd : Df z mg "_law_one" s_law_one) (H_law_take : Has z mg base "_law_take" P_law_take 1 W_law_take) : Has z mg base "_law_one" P_law_one (1 + 1) (W_law_one) := by
  refine okDf Dd sc_law_one (fun _ _ _ _ _ _ us hl => match us, hl with | [_, _], _ => rfl) (fun ds M P hw => ?_) (fun f cdv A outer s H E hr ds M P hw => ?_)
  · obtain ⟨p, a, b, xs, rfl, _⟩ := hw
    rfl
  obtain ⟨p, a, b, xs, rfl, hp, ha, hb, hb2, h0, h1, k⟩ := hw
  refine ⟨_, (pss_one (ps_ret (zx_ix z (pv 1) (px_call H_law_take (hr.mono (by omega)) rfl (pa_cons (pv 0) (pa_cons (pe_callB (zc_len z) rfl G.len boot_len (pa_cons (pv 1) pa_nil)) pa_nil)))))), ?_⟩
  walk_at "lv"
  refine ⟨p, a, b, _, rfl, hp, ha, hb, hb2, by omega, by omega, fun r a' b' hr0 hr1 ha' hb' hb2' => ⟨r, rfl, .inl ⟨xs, xs[r.toNat]'(by omega), .q, ?_, k _ a' b' (List.getElem_mem _) ha' hb' hb2'⟩⟩⟩
  have e : r = (r.toNat : Int) := by omega
  have := atI_nat (ds := xs) r.toNat (List.getElem?_eq_getElem (by omega))
  rw [← e] at this
  exact this
def W_law_unlike : Fw := fun ds M P => ∃ (xs : List D), ds = [.sq true xs] ∧ xs.all flatD = true ∧ xs.length ≤ sizeLine ∧ P (.sq true (unlike xs)) M
theorem unlike_take {xs : List D} {i : Nat} {x : D} (h : xs[i]? = some x) : unlike (xs.take (i + 1)) = if inD x (unlike (xs.take i)) = true then unlike (xs.take i) else unlike (xs.take i) ++ [x] := by
  rw [List.take_add_one, h]
  unfold unlike
  rw [List.foldl_append]
  rfl
theorem unlike_sub {xs : List D} : ∀ x ∈ unlike xs, x ∈ xs := by
  have : ∀ (ys acc : List D), ∀ x ∈ ys.foldl (fun acc x => if inD x acc = true then acc else acc ++ [x]) acc, x ∈ acc ∨ x ∈ ys := by
    intro ys
    induction ys with
    | nil => intro acc x h; exact .inl h
    | cons y ys ih =>
      intro acc x h
      rcases ih _ x h with h | h
      · dsimp only at h
        split at h
        · exact .inl h
        · rcases List.mem_append.mp h with h | h
          · exact .inl h
          · exact .inr (by simp at h; simp [h])
      · exact .inr (by simp [h])
  intro x h
  rcases this xs [] x h with h | h
  · cases h
  · exact h
theorem unlike_len (xs : List D) : (unlike xs).length ≤ xs.length := by
  have : ∀ (ys acc : List D), (ys.foldl (fun acc x => if inD x acc = true then acc else acc ++ [x]) acc).length ≤ acc.length + ys.length := by
    intro ys
    induction ys with
    | nil => intro acc; simp
    | cons y ys ih =>
      intro acc
      refine Nat.le_trans (ih _) ?_
      dsimp only
      split <;> simp <;> omega
  have h := this xs []
  rw [List.length_nil, Nat.zero_add] at h
  exact h
def N_law_unlike : List Str := ["_law_things", "_law_found", "_law_thing"]
def P_law_unlike : List Str := ["_law_things"]
theorem sc_law_unlike : FnScope N_law_unlike P_law_unlike (defScope s_law_unlike) := ⟨rfl, rfl, rfl, by decide +kernel, rfl, by decide +kernel, by decide +kernel⟩
theorem h_law_unlike {z : Cz} {mg : Str → Option Value} {base : Heap} {CF CT : Addr} (G : Gf z mg CF CT) (Dd : Df z mg "_law_unlike" s_law_unlike)  : Has z mg base "_law_unlike" P_law_unlike (0 + 1) (W_law_unlike) := by
  refine okDf Dd sc_law_unlike (fun _ _ _ _ _ _ us hl => match us, hl with | [_], _ => rfl) (fun ds M P hw => ?_) (fun f cdv A outer s H E hr ds M P hw => ?_)
  · obtain ⟨xs, rfl, _⟩ := hw
    rfl
  obtain ⟨xs, rfl, hf, hl, k⟩ := hw
  refine ⟨_, (pss_cons (ps_set (i := 1) sc_law_unlike.nd rfl (.inl rfl) (pe_lst pa_nil)) (pss_cons (ps_for PassesOwn.never rfl (zi_seq z (pv 0)) (pg_name (i := 2) sc_law_unlike.nd rfl (.inl rfl)) (pss_one (ps_if (pt_cmpR (zo_notIn z) (pv 2) (pv 1) (by with_unfolding_all rfl)) (pss_one (ps_expr (zx_bm z PySem.F.plainAttrs_list PySem.F.slot_list_append PySem.F.type_list_append xm_append (pv 1) (pa_cons (pv 2) pa_nil)))) pss_nil))) (pss_one (ps_ret (pv 1))))), ?_⟩
  walk_at "lve"
  refine s_seq ?_
  walk_at "lve"
  intro p hp
  refine s_seq (s_for (js := [2]) (ei_seq (ev_var rfl ⟨xs, .q, fun i γ m => ∃ c : Option D, γ = [some (.sq true xs), some (.ref p), c] ∧ m = mupd M p (.lst (unlike (xs.take i))), ⟨none, rfl, rfl⟩, fun i γ m hi hI => .q, ?_, ?_⟩)))
  · rintro i x γ m hx ⟨c, rfl, rfl⟩
    have hfx : flatD x = true := by rw [List.all_eq_true] at hf; exact hf x (List.mem_of_getElem? hx)
    have hff : (unlike (xs.take i)).all flatD = true := by
      rw [List.all_eq_true] at hf ⊢
      exact fun y hy => hf y (List.mem_of_mem_take (unlike_sub y hy))
    have hi : i < xs.length := (List.getElem?_eq_some_iff.mp hx).1
    walk_at "lv"
    refine ⟨_, .r mupd_same, hfx, hff, ?_⟩
    walk_at "lv"
    refine ⟨fun hb => ?_, fun hb => ?_⟩
    · walk_at "lv"
      refine ev_bm ?_
      walk_at "lv"
      refine ⟨⟨_, .inl ⟨_, rfl, mupd_same⟩⟩, ?_⟩
      walk_at "lv"
      refine ⟨p, _, rfl, mupd_same, x, rfl, ?_, some x, rfl, ?_⟩
      · have h1 := unlike_len (xs.take i)
        rw [List.length_take] at h1
        omega
      · rw [mupd_mupd, unlike_take hx, if_neg (by simpa using hb)]
    · walk_at "lv"
      exact ⟨some x, rfl, by rw [unlike_take hx, if_pos (by simpa using hb)]⟩
  · rintro γ m ⟨c, rfl, rfl⟩
    rw [List.take_length]
    refine EVS.freeze 1 rfl mupd_same (Nat.le_trans (unlike_len _) hl) ?_
    rw [mdel_mupd hp]
    walk_at "lv"
    exact k
def W_tk : Fw := fun ds M P => ∃ (p : Addr) (t : Int), ds = [.ref p, .int t] ∧ Src M p ∧ 0 < t ∧ t < 1000000 ∧ ∀ (r : Int) M', 0 ≤ r → r < t → SrcR M p M' → P (.int r) M'
theorem tk_of : ∀ ds M P, W_tk ds M P → W_law_take ds M P := by
  rintro ds M P ⟨p, t, rfl, ⟨a, b, hp, h1, h2, h3⟩, h4, h5, k⟩
  exact ⟨p, a, b, t, rfl, hp, h1, h2, h3, h4, h5, fun r a' b' hr hr' ha hb hb' => k r _ hr hr' ⟨a', b', rfl, ha, hb, hb'⟩⟩
def W_on : Fw := fun ds M P => ∃ (p : Addr) (xs : List D), ds = [.ref p, .sq true xs] ∧ Src M p ∧ 0 < xs.length ∧ xs.length < 1000000 ∧ ∀ x M', x ∈ xs → SrcR M p M' → P x M'
theorem on_of : ∀ ds M P, W_on ds M P → W_law_one ds M P := by
  rintro ds M P ⟨p, xs, rfl, ⟨a, b, hp, h1, h2, h3⟩, h4, h5, k⟩
  exact ⟨p, a, b, xs, rfl, hp, h1, h2, h3, h4, h5, fun x a' b' hx ha hb hb' => k x _ hx ⟨a', b', rfl, ha, hb, hb'⟩⟩
end Lv

set_option Elab.async false
set_option linter.all false
set_option maxRecDepth 100000
set_option maxHeartbeats 4000000
set_option pp.maxSteps 400
set_option pp.deepTerms false
namespace Lv
open PySem PySem.Spec PyProof.Rows L2 StX
local macro_rules
  | `(tactic| walk_at "lv1") => `(tactic| with_reducible (first
    | refine s_set ?_ | refine s_ret ?_ | refine s_if ?_ | refine s_drop ?_ | refine s_next ?_ | refine s_par ?_ | refine s_par3 ?_ | refine s_subL ?_ | refine s_unl2 ?_ | refine s_tup2 ?_ | refine eg_unl2 ?_ | refine eg_unl3 ?_ | refine eg_tup2 ?_
    | refine ev_var rfl ?_ | refine ev_int ?_ | refine ev_str ?_ | refine ev_bl ?_ | refine ev_non ?_ | refine ev_ref ?_
    | refine ev_lst0 ?_ | refine ev_eqE ?_ | refine ev_neE ?_ | refine ev_op ?_ | refine ev_un ?_ | refine ev_isiLT ?_ | refine ev_isi ?_ | refine ev_cb ?_ | refine ev_chain ?_ | refine ev_andV ?_ | refine ev_orV ?_ | refine ev_notV ?_ | refine ev_if ?_ | refine ev_tup ?_ | refine ev_call ?_
    | refine et_and ?_ | refine et_or ?_ | refine et_not ?_ | refine et_test ?_ | refine et_b ?_ | refine et_yes ?_
    | refine ea_cons ?_ | refine ea_nil ?_
    | refine g_int2 ?_ | refine g_bl ?_ | refine g_int ?_ | refine g_addI ?_ | refine g_eqI ?_ | refine g_eqSt ?_ | refine g_eqSf (by decide +kernel) ?_ | refine g_eqS ?_ | refine g_eqIS ?_ | refine g_eqSI ?_ | refine g_eqNS ?_ | refine g_isn ?_
    | refine g_par ?_ | refine g_par3 ?_ | refine g_neg ?_
    | refine g_ifT ?_ | refine g_ifNT ?_ | refine g_ifNF ?_ | refine g_ifF ?_ | refine g_ifD ?_ ?_ | refine g_ifDN ?_ ?_
    | refine eg_name ?_ | refine eg_setL ?_))
local macro_rules
  | `(tactic| walk_at "lvM") => `(tactic| first | assumption | exact mupd_same)
local macro_rules
  | `(tactic| walk_at "lvW") => `(tactic| with_unfolding_all rfl)
local macro_rules
  | `(tactic| walk_at "lvA") => `(tactic| first | with_unfolding_all rfl | with_unfolding_all exact atI_nat 0 rfl | with_unfolding_all exact atI_nat 1 rfl)
local macro_rules
  | `(tactic| walk_at "lv2") => `(tactic| with_reducible (first
    | refine ⟨_, _, (by walk_at "lvW"), kb_ii, ?_⟩ | refine ⟨_, _, (by walk_at "lvW"), kb_ib, ?_⟩ | refine ⟨_, _, (by walk_at "lvW"), kb_is, ?_⟩ | refine ⟨_, _, (by walk_at "lvW"), kb_ss, ?_⟩ | refine ⟨_, _, (by walk_at "lvW"), kb_tt, ?_⟩
    | refine .inl ⟨_, _, rfl, IsS.q, ?_⟩ | refine .inl ⟨_, _, rfl, IsS.r (by walk_at "lvM"), ?_⟩ | refine .inl ⟨_, _, rfl, IsS.sc, ?_⟩
    | refine .inl ⟨_, _, IsS.q, (by walk_at "lvA"), ?_⟩ | refine .inl ⟨_, _, IsS.r (by walk_at "lvM"), (by walk_at "lvA"), ?_⟩
    | refine .inl (g_int2 (And.intro (CMul.l (by omega) (by omega)) ?_)) | refine .inl (g_int2 (And.intro (CMul.r (by omega) (by omega)) ?_))
    | refine And.intro (CDiv.mk (by omega) (by omega)) ?_ | refine And.intro (by omega) ?_ | refine And.intro (Nat.le_of_ble_eq_true (by walk_at "lvW")) ?_
    | refine .inl ⟨_, _, rfl, ?_⟩
    | refine .inl ⟨_, rfl, ?_⟩ | refine .inr ⟨_, rfl, ?_⟩
    | refine ⟨_, _, _, _, rfl, (by walk_at "lvM"), rfl, (by walk_at "lvW"), ?_⟩
    | refine ⟨_, _, rfl, IsL.q, ?_⟩
    | refine ⟨_, rfl, .inl ⟨_, _, IsS.q, (by walk_at "lvA"), ?_⟩⟩))
local macro_rules
  | `(tactic| walk_at "lvm") => `(tactic| repeat' (first | walk_at "lv1" | (with_reducible refine s_seq ?_) | walk_at "lv2" | dsimp only))
local macro_rules
  | `(tactic| walk_at "lve") => `(tactic| repeat' (first | walk_at "lv1" | (with_reducible refine ev_lst ?_) | walk_at "lv2" | dsimp only))
local macro_rules
  | `(tactic| walk_at "lv") => `(tactic| repeat' (first | walk_at "lv1" | (with_reducible refine ev_lst ?_) | (with_reducible refine s_seq ?_) | walk_at "lv2" | dsimp only))
local macro_rules
  | `(tactic| walk_at "lve0") => `(tactic| repeat' (first
    | (with_reducible first | refine ev_var rfl ?_ | refine ev_int ?_ | refine ev_str ?_ | refine et_test ?_ | refine ev_eqE ?_ | refine ev_op ?_ | refine g_bl ?_ | refine g_eqI ?_ | refine g_eqSt ?_ | refine g_eqSf (by decide +kernel) ?_ | refine g_eqS ?_ | refine g_int ?_ | refine g_ifT ?_ | refine g_ifF ?_ | refine g_ifD ?_ ?_) | walk_at "lv2" | dsimp only))
local macro_rules
  | `(tactic| walk_at "lvx") => `(tactic| repeat' (first | (refine fun hx => absurd hx ?_; (with_reducible fail_if_success assumption); simp; done) | (refine fun _ => ?_; walk_at "lv")))
def Ws (ws : List Str) : Prop := 0 < ws.length ∧ ws.length ≤ 6 ∧ ∀ w ∈ ws, OkName w
def W_law_words : Fw := fun ds M P => ∃ (p : Addr), ds = [.ref p] ∧ Src M p ∧ ∀ ws M', Ws ws → SrcR M p M' → P (.sq true (ws.map D.str)) M'
theorem ws1 : Ws ["x", "y"] := ⟨by decide, by decide, by decide +kernel⟩
theorem ws2 : Ws ["x", "y", "z", "a"] := ⟨by decide, by decide, by decide +kernel⟩
theorem ws3 : Ws ["a", "b", "c", "d", "e", "f"] := ⟨by decide, by decide, by decide +kernel⟩
theorem ws4 : Ws ["x", "abcdefgh", "aa", "b", "zz"] := ⟨by decide, by decide, by decide +kernel⟩
def N_law_words : List Str := ["_law_source", "_law_some"]
def P_law_words : List Str := ["_law_source"]
theorem sc_law_words : FnScope N_law_words P_law_words (defScope s_law_words) := ⟨rfl, rfl, rfl, by decide +kernel, rfl, by decide +kernel, by decide +kernel⟩
theorem h_law_words {z : Cz} {mg : Str → Option Value} {base : Heap} {CF CT : Addr} (G : Gf z mg CF CT) (Dd : Df z mg "_law_words" s_law_words) (H_law_one : Has z mg base "_law_one" P_law_one 2 W_on) : Has z mg base "_law_words" P_law_words (2 + 1) (W_law_words) := by
  refine okDf Dd sc_law_words (fun _ _ _ _ _ _ us hl => match us, hl with | [_], _ => rfl) (fun ds M P hw => ?_) (fun f cdv A outer s H E hr ds M P hw => ?_)
  · obtain ⟨p, rfl, _⟩ := hw
    rfl
  obtain ⟨p, rfl, hp, k⟩ := hw
  refine ⟨_, (pss_cons (ps_set (i := 1) sc_law_words.nd rfl (.inl rfl) (pe_lst (pa_cons (pe_lst (pa_cons pe_str (pa_cons pe_str pa_nil))) (pa_cons (pe_lst (pa_cons pe_str (pa_cons pe_str (pa_cons pe_str (pa_cons pe_str pa_nil))))) (pa_cons (pe_lst (pa_cons pe_str (pa_cons pe_str (pa_cons pe_str (pa_cons pe_str (pa_cons pe_str (pa_cons pe_str pa_nil))))))) (pa_cons (pe_lst (pa_cons pe_str (pa_cons pe_str (pa_cons pe_str (pa_cons pe_str (pa_cons pe_str pa_nil)))))) pa_nil)))))) (pss_one (ps_ret (px_call H_law_one (hr.mono (by omega)) rfl (pa_cons (pv 0) (pa_cons (pv 1) pa_nil)))))), ?_⟩
  walk_at "lv"
  refine ⟨p, _, rfl, hp, by decide, by decide, fun x M' hx hs => ?_⟩
  simp only [List.mem_cons, List.not_mem_nil, or_false] at hx
  rcases hx with rfl | rfl | rfl | rfl
  · exact k _ M' ws1 hs
  · exact k _ M' ws2 hs
  · exact k _ M' ws3 hs
  · exact k _ M' ws4 hs
def W_law_leaf : Fw := fun ds M P => ∃ (p : Addr) (ws : List Str), ds = [.ref p, .sq true (ws.map D.str)] ∧ Src M p ∧ Ws ws ∧ ∀ n M', OkName n → SrcR M p M' → P (dT (.use n)) M'
def N_law_leaf : List Str := ["_law_source", "_law_words_here"]
def P_law_leaf : List Str := ["_law_source", "_law_words_here"]
theorem sc_law_leaf : FnScope N_law_leaf P_law_leaf (defScope s_law_leaf) := ⟨rfl, rfl, rfl, by decide +kernel, rfl, by decide +kernel, by decide +kernel⟩
theorem h_law_leaf {z : Cz} {mg : Str → Option Value} {base : Heap} {CF CT : Addr} (G : Gf z mg CF CT) (Dd : Df z mg "_law_leaf" s_law_leaf) (H_law_one : Has z mg base "_law_one" P_law_one 2 W_on) : Has z mg base "_law_leaf" P_law_leaf (2 + 1) (W_law_leaf) := by
  refine okDf Dd sc_law_leaf (fun _ _ _ _ _ _ us hl => match us, hl with | [_, _], _ => rfl) (fun ds M P hw => ?_) (fun f cdv A outer s H E hr ds M P hw => ?_)
  · obtain ⟨p, ws, rfl, _⟩ := hw
    rfl
  obtain ⟨p, ws, rfl, hp, hw, k⟩ := hw
  refine ⟨_, (pss_one (ps_ret (pe_tup (pa_cons pe_str (pa_cons (px_call H_law_one (hr.mono (by omega)) rfl (pa_cons (pv 0) (pa_cons (pv 1) pa_nil))) pa_nil))))), ?_⟩
  walk_at "lv"
  refine ⟨p, _, rfl, hp, by simpa using hw.1, by have := hw.2.1; simp; omega, fun x M' hx hs => ?_⟩
  obtain ⟨n, hn, rfl⟩ := List.mem_map.mp hx
  walk_at "lv"
  have := k n M' (hw.2.2 n hn) hs
  rw [dT] at this
  exact this
/-- what a drawn tree is: its node and binder count below what the room lost -/
def W_grown (n : Nat) : Fw := fun ds M P => ∃ (p : Addr) (ws : List Str) (a b : Nat), ds = [.ref p, .sq true (ws.map D.str), .sq true [.int a, .int b]] ∧ Src M p ∧ Ws ws ∧ 1 ≤ a ∧ a ≤ n ∧ a ≤ 24 ∧ b ≤ 6 ∧ ∀ t (a' b' : Nat) M', OkT t → nodes t + a' ≤ a → bins t + b' ≤ b → SrcR M p M' → P (.sq true [dT t, .sq true [.int a', .int b']]) M'
def W_bound (n : Nat) : Fw := fun ds M P => ∃ (p : Addr) (ws : List Str) (a b : Nat), ds = [.ref p, .sq true (ws.map D.str), .sq true [.int a, .int b]] ∧ Src M p ∧ Ws ws ∧ 3 ≤ a ∧ a ≤ n ∧ a ≤ 24 ∧ 1 ≤ b ∧ b ≤ 6 ∧ ∀ t (a' b' : Nat) M', OkT t → nodes t + a' ≤ a → bins t + b' ≤ b → SrcR M p M' → P (.sq true [dT t, .sq true [.int a', .int b']]) M'
def W_law_bound := W_bound
def W_law_grown := W_grown
def P_law_grown : List Str := ["_law_source", "_law_words_here", "_law_room"]
def N_law_bound : List Str := ["_law_source", "_law_words_here", "_law_room", "_law_ahead", "_law_left", "_law_turn", "_law_tree_here"]
def P_law_bound : List Str := ["_law_source", "_law_words_here", "_law_room"]
theorem sc_law_bound : FnScope N_law_bound P_law_bound (defScope s_law_bound) := ⟨rfl, rfl, rfl, by decide +kernel, rfl, by decide +kernel, by decide +kernel⟩
theorem h_law_bound {z : Cz} {mg : Str → Option Value} {base : Heap} {CF CT : Addr} (G : Gf z mg CF CT) (Dd : Df z mg "_law_bound" s_law_bound) {n : Nat} (H_law_one : Has z mg base "_law_one" P_law_one 2 W_on) (H_law_grown : Has z mg base "_law_grown" P_law_grown (3 + 2 * n) (W_law_grown n)) : Has z mg base "_law_bound" P_law_bound (3 + 2 * n + 1) (W_law_bound  (n + 1)) := by
  refine okDf Dd sc_law_bound (fun _ _ _ _ _ _ us hl => match us, hl with | [_, _, _], _ => rfl) (fun ds M P hw => ?_) (fun f cdv A outer s H E hr ds M P hw => ?_)
  · obtain ⟨p, ws, a, b, rfl, _⟩ := hw
    rfl
  obtain ⟨p, ws, a, b, rfl, hp, hw, ha, han, ha2, hb, hb2, k⟩ := hw
  refine ⟨_, (pss_cons (ps_par (i := 3) (j := 4) rfl sc_law_bound.nd rfl rfl (by decide) rfl rfl (pa_cons (pe_lst pa_nil) (pa_cons (pe_lst (pa_cons (pe_op ox_sub (zx_ix z (pv 2) pe_int) pe_int) (pa_cons (pe_op ox_sub (zx_ix z (pv 2) pe_int) pe_int) pa_nil))) pa_nil)) (by rfl)) (pss_cons (ps_for PassesOwn.never rfl (pi_range1 rfl G.range (pa_cons (px_call H_law_one (hr.mono (by omega)) rfl (pa_cons (pv 0) (pa_cons (pe_lst (pa_cons pe_int (pa_cons pe_int (pa_cons pe_int (pa_cons pe_int (pa_cons pe_int (pa_cons pe_int pa_nil))))))) pa_nil))) pa_nil)) (pg_name (i := 5) sc_law_bound.nd rfl (.inl rfl)) (pss_one (ps_if (pt_cmpR ox_gt (zx_ix z (pv 4) pe_int) pe_int (nomark _)) (pss_cons (ps_asg (px_call H_law_grown (hr.mono (by omega)) rfl (pa_cons (pv 0) (pa_cons (pv 1) (pa_cons (pv 4) pa_nil)))) (zg_unl (n := 2) z (pgs_cons (pg_name (i := 6) sc_law_bound.nd rfl (.inl rfl)) (pgs_cons (pg_name (i := 4) sc_law_bound.nd rfl (.inl rfl)) pgs_nil)))) (pss_one (ps_expr (zx_bm z PySem.F.plainAttrs_list PySem.F.slot_list_append PySem.F.type_list_append xm_append (pv 3) (pa_cons (pv 6) pa_nil))))) pss_nil))) (pss_cons (ps_if (pt_cmpR ox_lt (zx_ix z (pv 4) pe_int) pe_int (nomark _)) (pss_one (ps_ret (pe_lst (pa_cons (pe_tup (pa_cons pe_str (pa_cons (px_call H_law_one (hr.mono (by omega)) rfl (pa_cons (pv 0) (pa_cons (pv 1) pa_nil))) (pa_cons (pe_tup pa_nil) (pa_cons (zx_ix z (pv 3) pe_int) pa_nil))))) (pa_cons (pv 4) pa_nil))))) pss_nil) (pss_cons (ps_asg (px_call H_law_grown (hr.mono (by omega)) rfl (pa_cons (pv 0) (pa_cons (pv 1) (pa_cons (pv 4) pa_nil)))) (zg_unl (n := 2) z (pgs_cons (pg_name (i := 6) sc_law_bound.nd rfl (.inl rfl)) (pgs_cons (pg_name (i := 4) sc_law_bound.nd rfl (.inl rfl)) pgs_nil)))) (pss_one (ps_ret (pe_lst (pa_cons (pe_tup (pa_cons pe_str (pa_cons (px_call H_law_one (hr.mono (by omega)) rfl (pa_cons (pv 0) (pa_cons (pv 1) pa_nil))) (pa_cons (pe_callTy (zc_tuple z) rfl G.tuple boot_tuple (pa_cons (pv 3) pa_nil)) (pa_cons (pv 6) pa_nil))))) (pa_cons (pv 4) pa_nil))))))))), ?_⟩
  refine EVS.forget ?_
  refine s_seq ?_
  walk_at "lve"
  intro q hq
  have hqp := hp.ne hq
  walk_at "lve"
  refine s_seqI (fun γ m => ∃ (ts : List Tr) (a' b' : Nat) (M1 : Mem) (c d : Option D), γ = [some (.ref p), some (.sq true (ws.map D.str)), some (.sq true [.int a, .int b]), some (.ref q), some (.sq true [.int a', .int b']), c, d] ∧ m = mupd M1 q (.lst (dTs ts)) ∧ OkTs ts ∧ nodesL ts + a' + 1 ≤ a ∧ binsL ts + b' + 1 ≤ b ∧ (ts = [] → 1 ≤ a') ∧ SrcR M p M1) (s_for (js := [5]) (ei_rng ?_)) ?_
  · walk_at "lve"
    refine ⟨p, _, rfl, hp.upd hqp, by decide, by decide, fun x M' hx hs => ?_⟩
    obtain ⟨M0, hM0, rfl⟩ := hs.swap hqp
    have hx2 : ∃ n : Nat, x = .int n ∧ n ≤ 2 := by
      simp only [List.mem_cons, List.not_mem_nil, or_false] at hx
      rcases hx with rfl | rfl | rfl | rfl | rfl | rfl
      · exact ⟨0, rfl, by decide⟩
      · exact ⟨0, rfl, by decide⟩
      · exact ⟨0, rfl, by decide⟩
      · exact ⟨1, rfl, by decide⟩
      · exact ⟨1, rfl, by decide⟩
      · exact ⟨2, rfl, by decide⟩
    obtain ⟨r, rfl, hr2⟩ := hx2
    walk_at "lve"
    refine ⟨_, rfl, by omega, by omega, fun i γ m => ∃ (ts : List Tr) (a' b' : Nat) (M1 : Mem) (c d : Option D), γ = [some (.ref p), some (.sq true (ws.map D.str)), some (.sq true [.int a, .int b]), some (.ref q), some (.sq true [.int a', .int b']), c, d] ∧ m = mupd M1 q (.lst (dTs ts)) ∧ OkTs ts ∧ nodesL ts + a' + 1 ≤ a ∧ binsL ts + b' + 1 ≤ b ∧ (ts = [] → 1 ≤ a') ∧ SrcR M p M1, ?_, fun _ _ _ _ _ => trivial, ?_, fun _ _ h => h⟩
    · refine ⟨[], a - 1, b - 1, M0, none, none, ?_, ?_, ?_, ?_, ?_, ?_, hM0⟩
      · have e1 : ((a - 1 : Nat) : Int) = (a : Int) - 1 := by omega
        have e2 : ((b - 1 : Nat) : Int) = (b : Int) - 1 := by omega
        rw [e1, e2]; rfl
      · rw [dTs]
      · rw [OkTs]; trivial
      · rw [nodesL]; omega
      · rw [binsL]; omega
      · intro _; omega
    · rintro i x γ m hx ⟨ts, a', b', M1, c, d, rfl, rfl, h1, h2, h3, h4, h5⟩
      walk_at "lve"
      · intro hc
        walk_at "lv"
        have hq1 : q ≠ p := hqp
        refine ⟨p, ws, a', b', rfl, h5.src.upd hq1, hw, by omega, by omega, by omega, by omega, fun t a2 b2 M2 k1 k2 k3 k4 => ?_⟩
        obtain ⟨M3, hM3, rfl⟩ := k4.swap hq1
        refine ⟨_, _, rfl, ?_⟩
        walk_at "lv"
        refine ev_bm ?_
        walk_at "lv"
        refine ⟨⟨_, .inl ⟨_, rfl, mupd_same⟩⟩, ?_⟩
        walk_at "lv"
        have hz : (dTs ts).length < sizeLine := by
          rw [dTs_len]
          have := nodesL_len ts
          simp only [sizeLine]
          omega
        refine ⟨q, _, rfl, mupd_same, _, rfl, hz, ts ++ [t], a2, b2, M3, _, _, rfl, ?_, ?_, ?_, ?_, ?_, h5.trans hM3⟩
        · rw [mupd_mupd, dTs_append]; rfl
        · exact OkTs_append h1 (by rw [OkTs, OkTs]; exact ⟨k1, trivial⟩)
        · rw [nodesL_append, nodesL, nodesL]; omega
        · rw [binsL_append, binsL, binsL]; omega
        · intro e; simp at e
      · intro hc
        walk_at "lv"
        exact ⟨ts, a', b', M1, _, _, rfl, rfl, h1, h2, h3, h4, h5⟩
  · rintro γ m ⟨ts, a', b', M1, c, d, rfl, rfl, h1, h2, h3, h4, h5⟩
    walk_at "lve"
    refine s_seq ?_
    walk_at "lve"
    · intro hc
      have ha0 : a' = 0 := by omega
      subst ha0
      match ts, h4 with
      | [], h4 => exact absurd (h4 rfl) (by omega)
      | t :: ts, _ =>
        walk_at "lv"
        refine ⟨p, _, rfl, h5.src.upd hqp, by simpa using hw.1, by have := hw.2.1; simp; omega, fun x M' hx hs => ?_⟩
        obtain ⟨nm, hnm, rfl⟩ := List.mem_map.mp hx
        obtain ⟨M3, hM3, rfl⟩ := hs.swap hqp
        walk_at "lv"
        rw [dTs]
        have hk := k (.bind nm [] t) 0 b' M3 (by rw [OkT, OkTs]; rw [OkTs] at h1; exact ⟨hw.2.2 nm hnm, trivial, h1.1⟩) (by rw [nodes, nodesL]; rw [nodesL] at h2; omega) (by rw [bins, binsL]; rw [binsL] at h3; omega) (h5.trans hM3)
        refine ⟨M3, mupd_ex ?_, ?_⟩
        · rw [(h5.trans hM3).get hqp]; exact hq
        · rw [dT, dTs] at hk; exact hk
    · intro hc
      walk_at "lv"
      refine ⟨p, ws, a', b', rfl, h5.src.upd hqp, hw, by omega, by omega, by omega, by omega, fun t a2 b2 M2 k1 k2 k3 k4 => ?_⟩
      obtain ⟨M3, hM3, rfl⟩ := k4.swap hqp
      refine ⟨_, _, rfl, ?_⟩
      walk_at "lv"
      refine ⟨p, _, rfl, hM3.src.upd hqp, by simpa using hw.1, by have := hw.2.1; simp; omega, fun x M' hx hs => ?_⟩
      obtain ⟨nm, hnm, rfl⟩ := List.mem_map.mp hx
      obtain ⟨M4, hM4, rfl⟩ := hs.swap hqp
      walk_at "lv"
      have hz : (dTs ts).length ≤ sizeLine := by
        rw [dTs_len]
        have := nodesL_len ts
        simp only [sizeLine]
        omega
      refine ⟨_, _, rfl, .r mupd_same, hz, ?_⟩
      walk_at "lv"
      have hk := k (.bind nm ts t) a2 b2 M4 (by rw [OkT]; exact ⟨hw.2.2 nm hnm, h1, k1⟩) (by rw [nodes]; omega) (by rw [bins]; omega) ((h5.trans hM3).trans hM4)
      refine ⟨M4, mupd_ex ?_, ?_⟩
      · rw [((h5.trans hM3).trans hM4).get hqp]; exact hq
      · rw [dT] at hk; exact hk
def N_law_grown : List Str := ["_law_source", "_law_words_here", "_law_room", "_law_parts", "_law_left", "_law_turn", "_law_tree_here"]
theorem sc_law_grown : FnScope N_law_grown P_law_grown (defScope s_law_grown) := ⟨rfl, rfl, rfl, by decide +kernel, rfl, by decide +kernel, by decide +kernel⟩
theorem h_law_grown {z : Cz} {mg : Str → Option Value} {base : Heap} {CF CT : Addr} (G : Gf z mg CF CT) (Dd : Df z mg "_law_grown" s_law_grown) {n : Nat} (H_law_one : Has z mg base "_law_one" P_law_one 2 W_on) (H_law_take : Has z mg base "_law_take" P_law_take 1 W_tk) (H_law_leaf : Has z mg base "_law_leaf" P_law_leaf 3 W_law_leaf) (H_law_grown : Has z mg base "_law_grown" P_law_grown (3 + 2 * n) (W_law_grown n)) (H_law_bound : Has z mg base "_law_bound" P_law_bound (3 + 2 * n + 1) (W_law_bound (n + 1))) : Has z mg base "_law_grown" P_law_grown (3 + 2 * n + 1 + 1) (W_law_grown  (n + 1)) := by
  refine okDf Dd sc_law_grown (fun _ _ _ _ _ _ us hl => match us, hl with | [_, _, _], _ => rfl) (fun ds M P hw => ?_) (fun f cdv A outer s H E hr ds M P hw => ?_)
  · obtain ⟨p, ws, a, b, rfl, _⟩ := hw
    rfl
  obtain ⟨p, ws, a, b, rfl, hp, hw, ha, han, ha2, hb2, k⟩ := hw
  refine ⟨_, (pss_cons (ps_if (PW.pt (pw_or (pt_cmpR ox_lt (zx_ix z (pv 2) pe_int) pe_int (nomark _)) (pw_or1 (pt_cmpR (zo_eq z hr) (px_call H_law_take (hr.mono (by omega)) rfl (pa_cons (pv 0) (pa_cons pe_int pa_nil))) pe_int (nomark _))))) (pss_one (ps_ret (pe_lst (pa_cons (px_call H_law_leaf (hr.mono (by omega)) rfl (pa_cons (pv 0) (pa_cons (pv 1) pa_nil))) (pa_cons (pe_lst (pa_cons (pe_op ox_sub (zx_ix z (pv 2) pe_int) pe_int) (pa_cons (zx_ix z (pv 2) pe_int) pa_nil))) pa_nil))))) pss_nil) (pss_cons (ps_if (PW.pt (pw_and (pt_cmpR ox_gt (zx_ix z (pv 2) pe_int) pe_int (nomark _)) (pw_and1 (pt_cmpR ox_gt (px_call H_law_take (hr.mono (by omega)) rfl (pa_cons (pv 0) (pa_cons pe_int pa_nil))) pe_int (nomark _))))) (pss_one (ps_ret (px_call H_law_bound (hr.mono (by omega)) rfl (pa_cons (pv 0) (pa_cons (pv 1) (pa_cons (pv 2) pa_nil)))))) pss_nil) (pss_cons (ps_par (i := 3) (j := 4) rfl sc_law_grown.nd rfl rfl (by decide) rfl rfl (pa_cons (pe_lst pa_nil) (pa_cons (pe_lst (pa_cons (pe_op ox_sub (zx_ix z (pv 2) pe_int) pe_int) (pa_cons (zx_ix z (pv 2) pe_int) pa_nil))) pa_nil)) (by rfl)) (pss_cons (ps_for PassesOwn.never rfl (pi_range1 rfl G.range (pa_cons (px_call H_law_one (hr.mono (by omega)) rfl (pa_cons (pv 0) (pa_cons (pe_lst (pa_cons pe_int (pa_cons pe_int (pa_cons pe_int (pa_cons pe_int (pa_cons pe_int pa_nil)))))) pa_nil))) pa_nil)) (pg_name (i := 5) sc_law_grown.nd rfl (.inl rfl)) (pss_one (ps_if (pt_cmpR ox_gt (zx_ix z (pv 4) pe_int) pe_int (nomark _)) (pss_cons (ps_asg (px_call H_law_grown (hr.mono (by omega)) rfl (pa_cons (pv 0) (pa_cons (pv 1) (pa_cons (pv 4) pa_nil)))) (zg_unl (n := 2) z (pgs_cons (pg_name (i := 6) sc_law_grown.nd rfl (.inl rfl)) (pgs_cons (pg_name (i := 4) sc_law_grown.nd rfl (.inl rfl)) pgs_nil)))) (pss_one (ps_expr (zx_bm z PySem.F.plainAttrs_list PySem.F.slot_list_append PySem.F.type_list_append xm_append (pv 3) (pa_cons (pv 6) pa_nil))))) pss_nil))) (pss_one (ps_ret (pe_lst (pa_cons (pe_tup (pa_cons pe_str (pa_cons (px_call H_law_one (hr.mono (by omega)) rfl (pa_cons (pv 0) (pa_cons (pe_lst (pa_cons pe_str (pa_cons pe_str (pa_cons pe_str pa_nil)))) pa_nil))) (pa_cons (pe_callTy (zc_tuple z) rfl G.tuple boot_tuple (pa_cons (pv 3) pa_nil)) pa_nil)))) (pa_cons (pv 4) pa_nil))))))))), ?_⟩
  refine EVS.forget ?_
  refine s_seqI (fun γ m => γ = [some (.ref p), some (.sq true (ws.map D.str)), some (.sq true [.int a, .int b]), none, none, none, none] ∧ 3 ≤ a ∧ SrcR M p m) ?_ ?_
  · have hleaf : ∀ M1 : Mem, SrcR M p M1 → EVS z (tRet (tLst (tCons (tCall (spD z W_law_leaf) [] E0 (tCons (tVar 0) (tCons (tVar 1) tNil))) (tCons (tLst (tCons (tOp rSubU (tOp (rIxU z.K) (tVar 2) (tC (V.int 0))) (tC (V.int 1))) (tCons (tOp (rIxU z.K) (tVar 2) (tC (V.int 1))) tNil))) tNil))))
        (startG N_law_grown [D.ref p, D.sq true (List.map D.str ws), D.sq true [D.int a, D.int b]]) M1 ⟨fun γ m => γ = [some (.ref p), some (.sq true (ws.map D.str)), some (.sq true [.int a, .int b]), none, none, none, none] ∧ 3 ≤ a ∧ SrcR M p m, fun d m => ∃ m'', (∀ (a : Addr) (o : MO), m'' a = some o → m a = some o) ∧ P d m'', fun _ _ => False, fun _ _ => False⟩ := by
      intro M1 hM1
      walk_at "lv"
      refine ⟨p, ws, rfl, hM1.src, hw, fun nm M2 hnm hM2 => ?_⟩
      walk_at "lv"
      refine ⟨M2, fun _ _ h => h, ?_⟩
      have hk := k (.use nm) (a - 1) b M2 (by rw [OkT]; exact hnm) (by rw [nodes]; omega) (by rw [bins]; omega) (hM1.trans hM2)
      have e1 : ((a - 1 : Nat) : Int) = (a : Int) - 1 := by omega
      rw [e1] at hk
      exact hk
    walk_at "lve"
    · intro hc
      refine g_ifT (hleaf M hp.refl)
    · intro hc
      walk_at "lve"
      refine ⟨p, 7, rfl, hp, by decide, by decide, fun r M1 hr0 hr1 hM1 => ?_⟩
      walk_at "lve"
      · intro _
        exact hleaf M1 hM1
      · intro _
        walk_at "lve"
        exact ⟨rfl, by omega, hM1⟩
  · rintro γ m ⟨rfl, h3, h4⟩
    have hjoin : ∀ M1 : Mem, SrcR M p M1 → EVS z (tSeq (tPar 3 4 (tCons (tLst tNil) (tCons (tLst (tCons (tOp rSubU (tOp (rIxU z.K) (tVar 2) (tC (V.int 0))) (tC (V.int 1))) (tCons (tOp (rIxU z.K) (tVar 2) (tC (V.int 1))) tNil))) tNil)))
        (tSeq (tFor (iRng1 (tCons (tCall (spD z W_on) [] E0 (tCons (tVar 0) (tCons (tLst (tCons (tC (.int 0)) (tCons (tC (.int 1)) (tCons (tC (.int 2)) (tCons (tC (.int 2)) (tCons (tC (.int 3)) tNil)))))) tNil))) tNil)) (gName 5)
          (tIfS (tTest (tOp rGtU (tOp (rIxU z.K) (tVar 4) (tC (V.int 0))) (tC (V.int 0)))) (tSeq (tAsg (tCall (spD z (W_law_grown n)) [] E0 (tCons (tVar 0) (tCons (tVar 1) (tCons (tVar 4) tNil)))) (gUnl z.K 2 (gCons (gName 6) (gCons (gName 4) gNil)))) (tDrop (tBM z.K "list" rAppU (tVar 3) (tCons (tVar 6) tNil)))) tNext))
         (tRet (tLst (tCons (tTup (tCons (tC (V.str "join")) (tCons (tCall (spD z W_on) [] E0 (tCons (tVar 0) (tCons (tLst (tCons (tC (.str "f")) (tCons (tC (.str "x")) (tCons (tC (.str "join")) tNil)))) tNil))) (tCons (tCB (rTupU z.K) (tCons (tVar 3) tNil)) tNil)))) (tCons (tVar 4) tNil))))))
        [some (.ref p), some (.sq true (ws.map D.str)), some (.sq true [.int a, .int b]), none, none, none, none] M1 ⟨fun _ m => ∃ m'', (∀ (a : Addr) (o : MO), m'' a = some o → m a = some o) ∧ P .non m'', fun d m => ∃ m'', (∀ (a : Addr) (o : MO), m'' a = some o → m a = some o) ∧ P d m'', fun _ _ => False, fun _ _ => False⟩ := by
      intro M1 hM1
      refine s_seq ?_
      walk_at "lve"
      intro q hq
      have hqp := hM1.src.ne hq
      walk_at "lve"
      refine s_seqI (fun γ m => ∃ (ts : List Tr) (a' b' : Nat) (M2 : Mem) (c d : Option D), γ = [some (.ref p), some (.sq true (ws.map D.str)), some (.sq true [.int a, .int b]), some (.ref q), some (.sq true [.int a', .int b']), c, d] ∧ m = mupd M2 q (.lst (dTs ts)) ∧ OkTs ts ∧ nodesL ts + a' + 1 ≤ a ∧ binsL ts + b' ≤ b ∧ SrcR M1 p M2) (s_for (js := [5]) (ei_rng ?_)) ?_
      · walk_at "lve"
        refine ⟨p, _, rfl, hM1.src.upd hqp, by decide, by decide, fun x M' hx hs => ?_⟩
        obtain ⟨M0, hM0, rfl⟩ := hs.swap hqp
        have hx2 : ∃ n : Nat, x = .int n ∧ n ≤ 3 := by
          simp only [List.mem_cons, List.not_mem_nil, or_false] at hx
          rcases hx with rfl | rfl | rfl | rfl | rfl
          · exact ⟨0, rfl, by decide⟩
          · exact ⟨1, rfl, by decide⟩
          · exact ⟨2, rfl, by decide⟩
          · exact ⟨2, rfl, by decide⟩
          · exact ⟨3, rfl, by decide⟩
        obtain ⟨r, rfl, hr2⟩ := hx2
        walk_at "lve"
        refine ⟨_, rfl, by omega, by omega, fun i γ m => ∃ (ts : List Tr) (a' b' : Nat) (M2 : Mem) (c d : Option D), γ = [some (.ref p), some (.sq true (ws.map D.str)), some (.sq true [.int a, .int b]), some (.ref q), some (.sq true [.int a', .int b']), c, d] ∧ m = mupd M2 q (.lst (dTs ts)) ∧ OkTs ts ∧ nodesL ts + a' + 1 ≤ a ∧ binsL ts + b' ≤ b ∧ SrcR M1 p M2, ?_, fun _ _ _ _ _ => trivial, ?_, fun _ _ h => h⟩
        · refine ⟨[], a - 1, b, M0, none, none, ?_, ?_, ?_, ?_, ?_, hM0⟩
          · have e1 : ((a - 1 : Nat) : Int) = (a : Int) - 1 := by omega
            rw [e1]; rfl
          · rw [dTs]
          · rw [OkTs]; trivial
          · rw [nodesL]; omega
          · rw [binsL]; omega
        · rintro i x γ m hx ⟨ts, a', b', M2, c, d, rfl, rfl, h1, h2, h3, h5⟩
          walk_at "lve"
          · intro hc
            walk_at "lv"
            refine ⟨p, ws, a', b', rfl, h5.src.upd hqp, hw, by omega, by omega, by omega, by omega, fun t a2 b2 M3 k1 k2 k3 k4 => ?_⟩
            obtain ⟨M4, hM4, rfl⟩ := k4.swap hqp
            refine ⟨_, _, rfl, ?_⟩
            walk_at "lv"
            refine ev_bm ?_
            walk_at "lv"
            refine ⟨⟨_, .inl ⟨_, rfl, mupd_same⟩⟩, ?_⟩
            walk_at "lv"
            have hz : (dTs ts).length < sizeLine := by
              rw [dTs_len]
              have := nodesL_len ts
              simp only [sizeLine]
              omega
            refine ⟨q, _, rfl, mupd_same, _, rfl, hz, ts ++ [t], a2, b2, M4, _, _, rfl, ?_, ?_, ?_, ?_, h5.trans hM4⟩
            · rw [mupd_mupd, dTs_append]; rfl
            · exact OkTs_append h1 (by rw [OkTs, OkTs]; exact ⟨k1, trivial⟩)
            · rw [nodesL_append, nodesL, nodesL]; omega
            · rw [binsL_append, binsL, binsL]; omega
          · intro hc
            walk_at "lv"
            exact ⟨ts, a', b', M2, _, _, rfl, rfl, h1, h2, h3, h5⟩
      · rintro γ m ⟨ts, a', b', M2, c, d, rfl, rfl, h1, h2, h3, h5⟩
        walk_at "lv"
        refine ⟨p, _, rfl, h5.src.upd hqp, by decide, by decide, fun x M' hx hs => ?_⟩
        obtain ⟨M3, hM3, rfl⟩ := hs.swap hqp
        have hx2 : ∃ l : Str, x = .str l ∧ OkName l := by
          simp only [List.mem_cons, List.not_mem_nil, or_false] at hx
          rcases hx with rfl | rfl | rfl
          · exact ⟨_, rfl, by decide +kernel⟩
          · exact ⟨_, rfl, by decide +kernel⟩
          · exact ⟨_, rfl, by decide +kernel⟩
        obtain ⟨l, rfl, hl⟩ := hx2
        walk_at "lv"
        have hz : (dTs ts).length ≤ sizeLine := by
          rw [dTs_len]
          have := nodesL_len ts
          simp only [sizeLine]
          omega
        refine ⟨_, _, rfl, .r mupd_same, hz, ?_⟩
        walk_at "lv"
        have hk := k (.join l ts) a' b' M3 (by rw [OkT]; exact ⟨hl, h1⟩) (by rw [nodes]; omega) (by rw [bins]; omega) (hM1.trans (h5.trans hM3))
        refine ⟨M3, mupd_ex ?_, ?_⟩
        · rw [(h5.trans hM3).get hqp]; exact hq
        · rw [dT] at hk; exact hk
    refine s_seq ?_
    walk_at "lve"
    · intro hb
      walk_at "lve"
      refine ⟨p, 3, rfl, h4.src, by decide, by decide, fun r M1 hr0 hr1 hM1 => ?_⟩
      walk_at "lve"
      · intro _
        walk_at "lve"
        refine ⟨p, ws, a, b, rfl, hM1.src, hw, h3, han, ha2, by omega, hb2, fun t a2 b2 M2 k1 k2 k3 k4 => ?_⟩
        exact ⟨M2, fun _ _ h => h, k t a2 b2 M2 k1 k2 k3 ((h4.trans hM1).trans k4)⟩
      · intro _
        walk_at "lve"
        exact hjoin M1 (h4.trans hM1)
    · intro hb
      refine g_ifF ?_
      walk_at "lve"
      exact hjoin m h4
theorem grown_all {z : Cz} {mg : Str → Option Value} {base : Heap} {CF CT : Addr} (G : Gf z mg CF CT) (Dg : Df z mg "_law_grown" s_law_grown) (Db : Df z mg "_law_bound" s_law_bound)
    (H_law_one : Has z mg base "_law_one" P_law_one 2 W_on) (H_law_take : Has z mg base "_law_take" P_law_take 1 W_tk) (H_law_leaf : Has z mg base "_law_leaf" P_law_leaf 3 W_law_leaf) : ∀ n, Has z mg base "_law_grown" P_law_grown (3 + 2 * n) (W_law_grown n)
  | 0 => by
    refine Has.mono (okDf (k := 0) Dg sc_law_grown (fun _ _ _ _ _ _ us hl => match us, hl with | [_, _, _], _ => rfl) (fun ds M P hw => ?_) (fun f cdv A outer s H E hr ds M P hw => ?_)) (by omega)
    · obtain ⟨p, ws, a, b, rfl, _⟩ := hw
      rfl
    · obtain ⟨p, ws, a, b, rfl, hp, hw, ha, han, _⟩ := hw
      omega
  | n + 1 => by
    have ih := grown_all G Dg Db H_law_one H_law_take H_law_leaf n
    exact Has.mono (h_law_grown G Dg H_law_one H_law_take H_law_leaf ih (h_law_bound G Db H_law_one ih)) (by omega)
end Lv

set_option Elab.async false
set_option linter.all false
set_option maxRecDepth 100000
set_option maxHeartbeats 4000000
set_option pp.maxSteps 400
set_option pp.deepTerms false
namespace Lv
open PySem PySem.Spec PyProof.Rows L2 StX
local macro_rules
  | `(tactic| walk_at "lv1") => `(tactic| with_reducible (first
    | refine s_set ?_ | refine s_ret ?_ | refine s_if ?_ | refine s_drop ?_ | refine s_next ?_ | refine s_par ?_ | refine s_par3 ?_ | refine s_subL ?_ | refine s_unl2 ?_ | refine s_tup2 ?_ | refine eg_unl2 ?_ | refine eg_unl3 ?_ | refine eg_tup2 ?_
    | refine ev_var rfl ?_ | refine ev_int ?_ | refine ev_str ?_ | refine ev_bl ?_ | refine ev_non ?_ | refine ev_ref ?_
    | refine ev_lst0 ?_ | refine ev_eqE ?_ | refine ev_neE ?_ | refine ev_op ?_ | refine ev_un ?_ | refine ev_isiLT ?_ | refine ev_isi ?_ | refine ev_cb ?_ | refine ev_chain ?_ | refine ev_andV ?_ | refine ev_orV ?_ | refine ev_notV ?_ | refine ev_if ?_ | refine ev_tup ?_ | refine ev_call ?_
    | refine et_and ?_ | refine et_or ?_ | refine et_not ?_ | refine et_test ?_ | refine et_b ?_ | refine et_yes ?_
    | refine ea_cons ?_ | refine ea_nil ?_
    | refine g_int2 ?_ | refine g_bl ?_ | refine g_int ?_ | refine g_addI ?_ | refine g_eqI ?_ | refine g_eqSt ?_ | refine g_eqSf (by decide +kernel) ?_ | refine g_eqS ?_ | refine g_eqIS ?_ | refine g_eqSI ?_ | refine g_eqNS ?_ | refine g_isn ?_
    | refine g_par ?_ | refine g_par3 ?_ | refine g_neg ?_
    | refine g_ifT ?_ | refine g_ifNT ?_ | refine g_ifNF ?_ | refine g_ifF ?_ | refine g_ifD ?_ ?_ | refine g_ifDN ?_ ?_
    | refine eg_name ?_ | refine eg_setL ?_))
local macro_rules
  | `(tactic| walk_at "lvM") => `(tactic| first | assumption | exact mupd_same)
local macro_rules
  | `(tactic| walk_at "lvW") => `(tactic| with_unfolding_all rfl)
local macro_rules
  | `(tactic| walk_at "lvA") => `(tactic| first | with_unfolding_all rfl | with_unfolding_all exact atI_nat 0 rfl | with_unfolding_all exact atI_nat 1 rfl)
local macro_rules
  | `(tactic| walk_at "lv2") => `(tactic| with_reducible (first
    | refine ⟨_, _, (by walk_at "lvW"), kb_ii, ?_⟩ | refine ⟨_, _, (by walk_at "lvW"), kb_ib, ?_⟩ | refine ⟨_, _, (by walk_at "lvW"), kb_is, ?_⟩ | refine ⟨_, _, (by walk_at "lvW"), kb_ss, ?_⟩ | refine ⟨_, _, (by walk_at "lvW"), kb_tt, ?_⟩
    | refine .inl ⟨_, _, rfl, IsS.q, ?_⟩ | refine .inl ⟨_, _, rfl, IsS.r (by walk_at "lvM"), ?_⟩ | refine .inl ⟨_, _, rfl, IsS.sc, ?_⟩
    | refine .inl ⟨_, _, IsS.q, (by walk_at "lvA"), ?_⟩ | refine .inl ⟨_, _, IsS.r (by walk_at "lvM"), (by walk_at "lvA"), ?_⟩
    | refine .inl (g_int2 (And.intro (CMul.l (by omega) (by omega)) ?_)) | refine .inl (g_int2 (And.intro (CMul.r (by omega) (by omega)) ?_))
    | refine And.intro (CDiv.mk (by omega) (by omega)) ?_ | refine And.intro (by omega) ?_ | refine And.intro (Nat.le_of_ble_eq_true (by walk_at "lvW")) ?_
    | refine .inl ⟨_, _, rfl, ?_⟩
    | refine .inl ⟨_, rfl, ?_⟩ | refine .inr ⟨_, rfl, ?_⟩
    | refine ⟨_, _, _, _, rfl, (by walk_at "lvM"), rfl, (by walk_at "lvW"), ?_⟩
    | refine ⟨_, _, rfl, IsL.q, ?_⟩
    | refine ⟨_, rfl, .inl ⟨_, _, IsS.q, (by walk_at "lvA"), ?_⟩⟩))
local macro_rules
  | `(tactic| walk_at "lvm") => `(tactic| repeat' (first | walk_at "lv1" | (with_reducible refine s_seq ?_) | walk_at "lv2" | dsimp only))
local macro_rules
  | `(tactic| walk_at "lve") => `(tactic| repeat' (first | walk_at "lv1" | (with_reducible refine ev_lst ?_) | walk_at "lv2" | dsimp only))
local macro_rules
  | `(tactic| walk_at "lv") => `(tactic| repeat' (first | walk_at "lv1" | (with_reducible refine ev_lst ?_) | (with_reducible refine s_seq ?_) | walk_at "lv2" | dsimp only))
local macro_rules
  | `(tactic| walk_at "lve0") => `(tactic| repeat' (first
    | (with_reducible first | refine ev_var rfl ?_ | refine ev_int ?_ | refine ev_str ?_ | refine et_test ?_ | refine ev_eqE ?_ | refine ev_op ?_ | refine g_bl ?_ | refine g_eqI ?_ | refine g_eqSt ?_ | refine g_eqSf (by decide +kernel) ?_ | refine g_eqS ?_ | refine g_int ?_ | refine g_ifT ?_ | refine g_ifF ?_ | refine g_ifD ?_ ?_) | walk_at "lv2" | dsimp only))
local macro_rules
  | `(tactic| walk_at "lvx") => `(tactic| repeat' (first | (refine fun hx => absurd hx ?_; (with_reducible fail_if_success assumption); simp; done) | (refine fun _ => ?_; walk_at "lv")))
def W_law_nested : Fw := fun ds M P => ∃ (p : Addr) (ws : List Str) (n : Nat), ds = [.ref p, .sq true (ws.map D.str), .int n] ∧ Src M p ∧ Ws ws ∧ n ≤ 4 ∧ ∀ t M', OkT t → nodes t ≤ 21 → bins t ≤ 4 → SrcR M p M' → P (dT t) M'
/-- drawn leaves -/
def Leafs (ts : List Tr) : Prop := OkTs ts ∧ nodesL ts = ts.length ∧ binsL ts = 0
theorem Leafs.nil : Leafs [] := ⟨by rw [OkTs]; trivial, by rw [nodesL]; rfl, by rw [binsL]⟩
theorem Leafs.add {ts : List Tr} {n : Str} (h : Leafs ts) (hn : OkName n) : Leafs (ts ++ [.use n]) :=
  ⟨OkTs_append h.1 (by rw [OkTs, OkT, OkTs]; exact ⟨hn, trivial⟩), by rw [nodesL_append, nodesL, nodesL, nodes, h.2.1, List.length_append]; rfl, by rw [binsL_append, binsL, binsL, bins, h.2.2]⟩
theorem da_t {t : Tr} : OkT t → ∀ n, nodes t ≤ n → Da (2 * n) (dT t) := by
  suffices h : ∀ n (t : Tr), nodes t ≤ n → OkT t → Da (2 * n) (dT t) from fun ho n hn => h n t hn ho
  intro n
  induction n with
  | zero => intro t hn; have := nodes_pos t; omega
  | succ n ih =>
    have hs : ∀ ts : List Tr, nodesL ts ≤ n → OkTs ts → Da (2 * n + 1) (.sq false (dTs ts)) := by
      intro ts hl ho
      refine Da.sq fun x hx => ?_
      rw [dTs_map] at hx
      obtain ⟨t, ht, rfl⟩ := List.mem_map.mp hx
      refine ih t ?_ (OkTs_mem ho t ht)
      have : ∀ ts : List Tr, t ∈ ts → nodes t ≤ nodesL ts := by
        intro ts
        induction ts with
        | nil => intro h; cases h
        | cons u us ih2 =>
          intro h
          rw [nodesL]
          rcases List.mem_cons.mp h with e | e
          · rw [e]; omega
          · have := ih2 e; omega
      have := this ts ht
      omega
    intro t hn ho
    cases t with
    | use m =>
      rw [OkT] at ho
      rw [dT]
      refine Da.mono (Da.sq (n := 2 * n + 1) fun x hx => ?_) (by omega)
      simp only [List.mem_cons, List.not_mem_nil, or_false] at hx
      rcases hx with rfl | rfl
      · exact Da.str (by decide +kernel)
      · exact Da.str ho.ok
    | join l ts =>
      rw [OkT] at ho
      rw [nodes] at hn
      rw [dT]
      refine Da.mono (Da.sq (n := 2 * n + 1) fun x hx => ?_) (by omega)
      simp only [List.mem_cons, List.not_mem_nil, or_false] at hx
      rcases hx with rfl | rfl | rfl
      · exact Da.str (by decide +kernel)
      · exact Da.str ho.1.ok
      · exact hs ts (by omega) ho.2
    | bind l ts b =>
      rw [OkT] at ho
      rw [nodes] at hn
      rw [dT]
      refine Da.mono (Da.sq (n := 2 * n + 1) fun x hx => ?_) (by omega)
      simp only [List.mem_cons, List.not_mem_nil, or_false] at hx
      rcases hx with rfl | rfl | rfl | rfl
      · exact Da.str (by decide +kernel)
      · exact Da.str ho.1.ok
      · exact hs ts (by have := nodes_pos b; omega) ho.2.1
      · exact (ih b (by omega) ho.2.2).mono (by omega)
theorem ev_leafs {z : Cz} {Γ : Gam} {M : Mem} {P : D → Mem → Prop} {wi : TI} {p : Addr} {ws : List Str} {j : Nat} (hw : Ws ws)
    (h : EI z wi Γ M fun xs Gd M1 => ∃ r, xs = rgD 0 r ∧ r ≤ 4 ∧ (∀ m, Gd m) ∧ Src M1 p ∧ ∀ ts M2, Leafs ts → ts.length = r → SrcR M1 p M2 → P (.sq true (dTs ts)) M2)
    (h0 : ∀ x : D, ((wipeG Γ [j]).set j (some x))[0]? = some (some (.ref p))) (h1 : ∀ x : D, ((wipeG Γ [j]).set j (some x))[1]? = some (some (.sq true (ws.map D.str)))) :
    EV z (tLc wi (gName j) tYes (tCall (spD z W_law_leaf) [] E0 (tCons (tVar 0) (tCons (tVar 1) tNil))) [j]) Γ M P := by
  refine ev_lc [j] (fun _ h => h) fun B F σ H sl hs RR q => h B F σ H sl hs RR fun xs Gd M1 ⟨r, ex, hr, hG, hs1, fin⟩ => q xs Gd M1 ?_
  subst ex
  have hl : (rgD 0 r).length = r := by simp [rgD]
  refine ⟨by rw [hl]; simp only [sizeLine]; omega, fun i acc m => ∃ ts, acc = dTs ts ∧ Leafs ts ∧ ts.length = i ∧ SrcR M1 p m, ⟨[], by rw [dTs], Leafs.nil, rfl, hs1.refl⟩, fun i acc m hi ⟨ts, e, _, e2, _⟩ => ⟨hG m, by rw [e, dTs_len, e2]; exact Nat.le_refl _⟩, ?_, ?_⟩
  · rintro i x acc m hx ⟨ts, rfl, k1, k2, k3⟩
    refine eg_name (et_yes ⟨fun _ => ?_, fun q => nomatch q⟩)
    refine ev_call (ea_cons (ev_var (h0 x) (ea_cons (ev_var (h1 x) (ea_nil ?_)))))
    refine ⟨p, ws, rfl, k3.src, hw, fun nm M2 hnm hM2 => ⟨ts ++ [.use nm], ?_, k1.add hnm, ?_, k3.trans hM2⟩⟩
    · rw [dTs_append, dTs, dTs]
    · rw [List.length_append, k2]; rfl
  · rintro acc m ⟨ts, rfl, k1, k2, k3⟩
    rw [hl] at k2
    exact ⟨by rw [dTs_len, k2]; simp only [sizeLine]; omega, .inl (fin ts m k1 k2 k3)⟩
def N_law_nested : List Str := ["_law_source", "_law_words_here", "_law_deep", "_law_turn", "_law_tree_here", "_law_beside", "_law_core", "_law_ahead", "_law_one_here"]
def P_law_nested : List Str := ["_law_source", "_law_words_here", "_law_deep"]
theorem sc_law_nested : FnScope N_law_nested P_law_nested (defScope s_law_nested) := ⟨rfl, rfl, rfl, by decide +kernel, rfl, by decide +kernel, by decide +kernel⟩
theorem h_law_nested {z : Cz} {mg : Str → Option Value} {base : Heap} {CF CT : Addr} (G : Gf z mg CF CT) (Dd : Df z mg "_law_nested" s_law_nested) (H_law_one : Has z mg base "_law_one" P_law_one 2 W_on) (H_law_take : Has z mg base "_law_take" P_law_take 1 W_tk) (H_law_leaf : Has z mg base "_law_leaf" P_law_leaf 3 W_law_leaf) : Has z mg base "_law_nested" P_law_nested (3 + 1) (W_law_nested) := by
  refine okDf Dd sc_law_nested (fun _ _ _ _ _ _ us hl => match us, hl with | [_, _, _], _ => rfl) (fun ds M P hw => ?_) (fun f cdv A outer s H E hr ds M P hw => ?_)
  · obtain ⟨p, ws, n, rfl, _⟩ := hw
    rfl
  obtain ⟨p, ws, n, rfl, hp, hw, hn, k⟩ := hw
  refine ⟨_, (pss_cons (ps_set (i := 4) sc_law_nested.nd rfl (.inl rfl) (pe_tup (pa_cons pe_str (pa_cons pe_str (pa_cons (pe_callTy (zc_tuple z) rfl G.tuple boot_tuple (pa_cons (pe_lc (own := [("_law_turn", 3)]) rfl sc_law_nested.nd (pi_range1 rfl G.range (pa_cons (pe_op ox_add pe_int (px_call H_law_take (hr.mono (by omega)) rfl (pa_cons (pv 0) (pa_cons pe_int pa_nil)))) pa_nil)) (blkOk_by (N := N_law_nested) (sc := defScope s_law_nested) (by decide +kernel)) (fun _ _ _ _ _ => (pg_name (i := 3) sc_law_nested.nd rfl (.inl rfl))) (fun _ _ _ _ _ => pts_nil) (fun _ _ _ _ _ => (px_call H_law_leaf (hr.mono (by omega)) rfl (pa_cons (pv 0) (pa_cons (pv 1) pa_nil))))) pa_nil)) pa_nil))))) (pss_cons (ps_for PassesOwn.never rfl (pi_range1 rfl G.range (pa_cons (pv 2) pa_nil)) (pg_name (i := 3) sc_law_nested.nd rfl (.inl rfl)) (pss_cons (ps_setLc (i := 5) (own := [("_law_one_here", 8)]) rfl sc_law_nested.nd rfl rfl (sw_true rfl rfl rfl (by decide +kernel)) (pi_range1 rfl G.range (pa_cons (px_call H_law_take (hr.mono (by omega)) rfl (pa_cons (pv 0) (pa_cons pe_int pa_nil))) pa_nil)) (blkOk_by (N := N_law_nested) (sc := defScope s_law_nested) (by decide +kernel)) (fun _ _ _ _ _ => (pg_name (i := 8) sc_law_nested.nd rfl (.inl rfl))) (fun _ _ _ _ _ => pts_nil) (fun _ _ _ _ _ => (px_call H_law_leaf (hr.mono (by omega)) rfl (pa_cons (pv 0) (pa_cons (pv 1) pa_nil))))) (pss_cons (ps_set (i := 6) sc_law_nested.nd rfl (.inl rfl) (pe_ifExp (pt_cmpR (zo_eq z hr) (pv 5) (pe_lst pa_nil) (nomark _)) (pv 4) (pe_tup (pa_cons pe_str (pa_cons pe_str (pa_cons (pe_callTy (zc_tuple z) rfl G.tuple boot_tuple (pa_cons (pe_op ox_add (pv 5) (pe_lst (pa_cons (pv 4) pa_nil))) pa_nil)) pa_nil)))))) (pss_cons (ps_set (i := 7) sc_law_nested.nd rfl (.inl rfl) (pe_ifExp (pt_cmpR (zo_eq z hr) (px_call H_law_take (hr.mono (by omega)) rfl (pa_cons (pv 0) (pa_cons pe_int pa_nil))) pe_int (nomark _)) (pe_lst (pa_cons (px_call H_law_leaf (hr.mono (by omega)) rfl (pa_cons (pv 0) (pa_cons (pv 1) pa_nil))) pa_nil)) (pe_lst pa_nil))) (pss_one (ps_set (i := 4) sc_law_nested.nd rfl (.inl rfl) (pe_tup (pa_cons pe_str (pa_cons (px_call H_law_one (hr.mono (by omega)) rfl (pa_cons (pv 0) (pa_cons (pv 1) pa_nil))) (pa_cons (pe_callTy (zc_tuple z) rfl G.tuple boot_tuple (pa_cons (pv 7) pa_nil)) (pa_cons (pv 6) pa_nil))))))))))) (pss_one (ps_ret (pv 4))))), ?_⟩
  refine EVS.forget ?_
  refine s_seq ?_
  walk_at "lve"
  refine ev_leafs (p := p) (ws := ws) hw (ei_rng ?_) (fun x => rfl) (fun x => rfl)
  walk_at "lve"
  refine ⟨p, 4, rfl, hp, by decide, by decide, fun r M1 hr0 hr1 hM1 => ?_⟩
  walk_at "lve"
  refine ⟨_, rfl, by omega, by omega, _, rfl, by omega, fun _ => trivial, hM1.src, fun ts M2 h1 h2 hM2 => ?_⟩
  walk_at "lve"
  have hz : (dTs ts).length ≤ sizeLine := by rw [dTs_len]; simp only [sizeLine]; omega
  refine ⟨hz, ?_⟩
  walk_at "lve"
  refine s_seqI (fun γ m => ∃ (t : Tr) (c6 c7 c8 c9 c10 : Option D), γ = [some (.ref p), some (.sq true (ws.map D.str)), some (.int n), c6, some (dT t), c7, c8, c9, c10] ∧ OkT t ∧ nodes t ≤ 21 ∧ bins t ≤ 4 ∧ SrcR M p m) (s_for (js := [3]) (ei_rng ?_)) ?_
  · walk_at "lve"
    refine ⟨_, rfl, by omega, by omega, fun i γ m => ∃ (t : Tr) (c6 c7 c8 c9 c10 : Option D), γ = [some (.ref p), some (.sq true (ws.map D.str)), some (.int n), c6, some (dT t), c7, c8, c9, c10] ∧ OkT t ∧ nodes t ≤ 5 + 4 * i ∧ bins t ≤ i ∧ SrcR M p m, ?_, fun _ _ _ _ _ => trivial, ?_, ?_⟩
    · refine ⟨.join "f" ts, none, none, none, none, none, ?_, ?_, ?_, ?_, hM1.trans hM2⟩
      · rw [dT]; rfl
      · rw [OkT]; exact ⟨by decide +kernel, h1.1⟩
      · rw [nodes, h1.2.1]; omega
      · rw [bins, h1.2.2]; omega
    · rintro i x γ m hx ⟨t, c6, c7, c8, c9, c10, rfl, k1, k2, k3, k4⟩
      have hi : i < n := by
        have := (List.getElem?_eq_some_iff.mp hx).1
        simpa [rgD] using this
      walk_at "lve"
      refine s_seq (s_set (ev_leafs (p := p) (ws := ws) hw (ei_rng ?_) (fun x => rfl) (fun x => rfl)))
      walk_at "lve"
      refine ⟨p, 2, rfl, k4.src, by decide, by decide, fun r2 M3 hr2 hr3 hM3 => ?_⟩
      walk_at "lve"
      refine ⟨_, rfl, by omega, by omega, _, rfl, by omega, fun _ => trivial, hM3.src, fun ts2 M4 l1 l2 hM4 => ?_⟩
      have l3 : ts2.length ≤ 1 := by omega
      walk_at "lve"
      refine s_seqI (fun γ m' => ∃ (u : Tr), γ = [some (.ref p), some (.sq true (ws.map D.str)), some (.int n), some x, some (dT t), some (.sq true (dTs ts2)), some (dT u), c9, c10] ∧ OkT u ∧ nodes u ≤ 7 + 4 * i ∧ bins u ≤ i ∧ SrcR m p m') ?_ ?_
      · walk_at "lve"
        refine ⟨_, rfl, ⟨50, by decide, fun y hy => ?_⟩, ?_⟩
        · rw [dTs_map] at hy
          obtain ⟨u, hu, rfl⟩ := List.mem_map.mp hy
          have h3 : nodes u ≤ nodesL ts2 := by
            match ts2, hu, l3 with
            | [v], hu, _ =>
              have : u = v := by simpa using hu
              rw [this, nodesL]; omega
          exact (da_t (OkTs_mem l1.1 u hu) 1 (by rw [l1.2.1] at h3; omega)).mono (by decide)
        · walk_at "lve"
          refine ⟨fun hb => ?_, fun hb => ?_⟩
          · walk_at "lve"
            exact ⟨t, rfl, k1, by omega, k3, hM3.trans hM4⟩
          · walk_at "lve"
            have hz2 : (dTs ts2 ++ [dT t]).length ≤ sizeLine := by rw [List.length_append, dTs_len]; simp only [sizeLine, List.length_cons, List.length_nil]; omega
            refine .inr (.inr ⟨_, _, .q, .q, hz2, .inl ?_⟩)
            walk_at "lve"
            refine ⟨hz2, ?_⟩
            walk_at "lve"
            refine ⟨.join "g" (ts2 ++ [t]), ?_, ?_, ?_, ?_, hM3.trans hM4⟩
            · rw [dT, dTs_append, dTs, dTs]; rfl
            · rw [OkT]; exact ⟨by decide +kernel, OkTs_append l1.1 (by rw [OkTs, OkTs]; exact ⟨k1, trivial⟩)⟩
            · rw [nodes, nodesL_append, nodesL, nodesL, l1.2.1]; omega
            · rw [bins, binsL_append, binsL, binsL, l1.2.2]; omega
      · rintro γ m' ⟨u, rfl, u1, u2, u3, u4⟩
        refine s_seqI (fun γ m'' => ∃ (ts3 : List Tr), γ = [some (.ref p), some (.sq true (ws.map D.str)), some (.int n), some x, some (dT t), some (.sq true (dTs ts2)), some (dT u), some (.sq true (dTs ts3)), c10] ∧ Leafs ts3 ∧ ts3.length ≤ 1 ∧ SrcR m' p m'') ?_ ?_
        · walk_at "lve"
          refine ⟨p, 4, rfl, u4.src, by decide, by decide, fun r3 M5 hr5 hr6 hM5 => ?_⟩
          walk_at "lve"
          · intro _
            walk_at "lve"
            refine ⟨p, ws, rfl, hM5.src, hw, fun nm M6 hnm hM6 => ?_⟩
            walk_at "lve"
            refine ⟨[.use nm], ?_, Leafs.nil.add hnm, by simp, hM5.trans hM6⟩
            rw [dTs, dTs]; rfl
          · intro _
            refine ev_lst (ea_nil ⟨by simp, [], ?_, Leafs.nil, by simp, hM5⟩)
            rw [dTs]; rfl
        · rintro γ m'' ⟨ts3, rfl, v1, v2, v3⟩
          walk_at "lve"
          refine ⟨p, _, rfl, v3.src, by simpa using hw.1, by have := hw.2.1; simp; omega, fun y M6 hy hM6 => ?_⟩
          obtain ⟨nm, hnm, rfl⟩ := List.mem_map.mp hy
          walk_at "lve"
          have hz3 : (dTs ts3).length ≤ sizeLine := by rw [dTs_len]; simp only [sizeLine]; omega
          refine ⟨hz3, ?_⟩
          walk_at "lve"
          refine ⟨.bind nm ts3 u, some x, some (.sq true (dTs ts2)), some (dT u), some (.sq true (dTs ts3)), c10, by rw [dT]; rfl, ?_, ?_, ?_, ((k4.trans u4).trans v3).trans hM6⟩
          · rw [OkT]; exact ⟨hw.2.2 nm hnm, v1.1, u1⟩
          · rw [nodes, v1.2.1]; omega
          · rw [bins, v1.2.2]; omega
    · rintro γ m ⟨t, c6, c7, c8, c9, c10, rfl, k1, k2, k3, k4⟩
      have hl : (rgD 0 (n : Int).toNat).length = n := by simp [rgD]
      rw [hl] at k2 k3
      exact ⟨t, c6, c7, c8, c9, c10, rfl, k1, by omega, by omega, k4⟩
  · rintro γ m ⟨t, c6, c7, c8, c9, c10, rfl, k1, k2, k3, k4⟩
    walk_at "lve"
    exact ⟨m, fun _ _ h => h, k t m k1 k2 k3 k4⟩
def W_law_tree : Fw := fun ds M P => ∃ (p : Addr), ds = [.ref p, .int 24, .int 6] ∧ Src M p ∧ ∀ t M', OkT t → nodes t ≤ 25 → bins t ≤ 6 → SrcR M p M' → P (dT t) M'
def N_law_tree : List Str := ["_law_source", "_law_most_nodes", "_law_most_binders", "_law_words_here", "_law_way", "_law_half", "_law_one_here", "_law_other"]
def P_law_tree : List Str := ["_law_source", "_law_most_nodes", "_law_most_binders"]
theorem sc_law_tree : FnScope N_law_tree P_law_tree (defScope s_law_tree) := ⟨rfl, rfl, rfl, by decide +kernel, rfl, by decide +kernel, by decide +kernel⟩
theorem h_law_tree {z : Cz} {mg : Str → Option Value} {base : Heap} {CF CT : Addr} (G : Gf z mg CF CT) (Dd : Df z mg "_law_tree" s_law_tree) (H_law_words : Has z mg base "_law_words" P_law_words 3 W_law_words) (H_law_take : Has z mg base "_law_take" P_law_take 1 W_tk) (H_law_nested : Has z mg base "_law_nested" P_law_nested 4 W_law_nested) (H_law_grown : Has z mg base "_law_grown" P_law_grown (3 + 2 * 24) (W_law_grown 24)) : Has z mg base "_law_tree" P_law_tree (3 + 2 * 24 + 1) (W_law_tree) := by
  refine okDf Dd sc_law_tree (fun _ _ _ _ _ _ us hl => match us, hl with | [_, _, _], _ => rfl) (fun ds M P hw => ?_) (fun f cdv A outer s H E hr ds M P hw => ?_)
  · obtain ⟨p, rfl, _⟩ := hw
    rfl
  obtain ⟨p, rfl, hp, k⟩ := hw
  refine ⟨_, (pss_cons (ps_par (i := 3) (j := 4) rfl sc_law_tree.nd rfl rfl (by decide) rfl rfl (pa_cons (px_call H_law_words (hr.mono (by omega)) rfl (pa_cons (pv 0) pa_nil)) (pa_cons (px_call H_law_take (hr.mono (by omega)) rfl (pa_cons (pv 0) (pa_cons pe_int pa_nil))) pa_nil)) (by rfl)) (pss_cons (ps_if (pt_cmpR (zo_eq z hr) (pv 4) pe_int (nomark _)) (pss_one (ps_ret (px_call H_law_nested (hr.mono (by omega)) rfl (pa_cons (pv 0) (pa_cons (pv 3) (pa_cons (px_call H_law_take (hr.mono (by omega)) rfl (pa_cons (pv 0) (pa_cons (pe_op ox_add (pe_callB (cx_min rfl) rfl G.min boot_min (pa_cons (pv 2) (pa_cons (pe_op ox_fdiv (pv 1) pe_int) pa_nil))) pe_int) pa_nil))) pa_nil)))))) pss_nil) (pss_cons (ps_if (pt_cmpR (zo_eq z hr) (pv 4) pe_int (nomark _)) (pss_cons (ps_set (i := 5) sc_law_tree.nd rfl (.inl rfl) (pe_lst (pa_cons (pe_op ox_fdiv (pv 1) pe_int) (pa_cons (pe_op ox_fdiv (pv 2) pe_int) pa_nil)))) (pss_cons (ps_par (i := 6) (j := 7) rfl sc_law_tree.nd rfl rfl (by decide) rfl rfl (pa_cons (zx_ix z (px_call H_law_grown (hr.mono (by omega)) rfl (pa_cons (pv 0) (pa_cons (pv 3) (pa_cons (pv 5) pa_nil)))) pe_int) (pa_cons (zx_ix z (px_call H_law_grown (hr.mono (by omega)) rfl (pa_cons (pv 0) (pa_cons (pv 3) (pa_cons (pv 5) pa_nil)))) pe_int) pa_nil)) (by rfl)) (pss_one (ps_ret (pe_tup (pa_cons pe_str (pa_cons pe_str (pa_cons (pe_tup (pa_cons (pv 6) (pa_cons (pv 7) pa_nil))) pa_nil)))))))) pss_nil) (pss_one (ps_ret (zx_ix z (px_call H_law_grown (hr.mono (by omega)) rfl (pa_cons (pv 0) (pa_cons (pv 3) (pa_cons (pe_lst (pa_cons (pv 1) (pa_cons (pv 2) pa_nil))) pa_nil)))) pe_int)))))), ?_⟩
  walk_at "lv"
  refine ⟨p, rfl, hp, fun ws M1 hw hM1 => ?_⟩
  walk_at "lv"
  refine ⟨p, 4, rfl, hM1.src, by decide, by decide, fun r M2 hr0 hr1 hM2 => ?_⟩
  walk_at "lv"
  · intro hb; walk_at "lv"
    refine ⟨_, _, rfl, ?_⟩
    walk_at "lv"
    refine ⟨p, 5, rfl, hM2.src, by decide, by decide, fun r2 M3 hr2 hr3 hM3 => ?_⟩
    walk_at "lv"
    refine ⟨p, ws, r2.toNat, by rw [Int.toNat_of_nonneg hr2], hM3.src, hw, by omega, fun t M4 h1 h2 h3 h4 => k t M4 h1 (by omega) (by omega) (((hM1.trans hM2).trans hM3).trans h4)⟩
  · intro hb; walk_at "lv"
    · intro hb2; walk_at "lv"
      refine ⟨p, ws, 12, 3, rfl, hM2.src, hw, by decide, by decide, by decide, by decide, fun t a' b' M3 h1 h2 h3 h4 => ?_⟩
      walk_at "lv"
      refine ⟨p, ws, 12, 3, rfl, h4.src, hw, by decide, by decide, by decide, by decide, fun t2 a2 b2 M4 k1 k2 k3 k4 => ?_⟩
      walk_at "lv"
      have hk := k (.join "f" [t, t2]) M4 (by rw [OkT, OkTs, OkTs, OkTs]; exact ⟨by decide +kernel, h1, k1, trivial⟩) (by rw [nodes, nodesL, nodesL, nodesL]; omega) (by rw [bins, binsL, binsL, binsL]; omega) (((hM1.trans hM2).trans h4).trans k4)
      rw [dT, dTs, dTs, dTs] at hk
      exact hk
    · intro hb2; walk_at "lv"
      refine ⟨p, ws, 24, 6, rfl, hM2.src, hw, by decide, by decide, by decide, by decide, fun t a' b' M3 h1 h2 h3 h4 => ?_⟩
      walk_at "lv"
      exact k t M3 h1 (by omega) (by omega) ((hM1.trans hM2).trans h4)
def W_law_small : Fw := fun ds M P => ∃ (p : Addr), ds = [.ref p] ∧ Src M p ∧ ∀ t M', OkT t → nodes t ≤ 25 → bins t ≤ 6 → SrcR M p M' → P (dT t) M'
def N_law_small : List Str := ["_law_source"]
def P_law_small : List Str := ["_law_source"]
theorem sc_law_small : FnScope N_law_small P_law_small (defScope s_law_small) := ⟨rfl, rfl, rfl, by decide +kernel, rfl, by decide +kernel, by decide +kernel⟩
theorem h_law_small {z : Cz} {mg : Str → Option Value} {base : Heap} {CF CT : Addr} (G : Gf z mg CF CT) (Dd : Df z mg "_law_small" s_law_small) (H_law_tree : Has z mg base "_law_tree" P_law_tree (4 + 2 * 24) W_law_tree) : Has z mg base "_law_small" P_law_small (4 + 2 * 24 + 1) (W_law_small) := by
  refine okDf Dd sc_law_small (fun _ _ _ _ _ _ us hl => match us, hl with | [_], _ => rfl) (fun ds M P hw => ?_) (fun f cdv A outer s H E hr ds M P hw => ?_)
  · obtain ⟨p, rfl, _⟩ := hw
    rfl
  obtain ⟨p, rfl, hp, k⟩ := hw
  refine ⟨_, (pss_one (ps_ret (px_call H_law_tree (hr.mono (by omega)) rfl (pa_cons (pv 0) (pa_cons pe_int (pa_cons pe_int pa_nil)))))), ?_⟩
  walk_at "lv"
  exact ⟨p, rfl, hp, k⟩
end Lv

set_option Elab.async false
set_option linter.all false
set_option maxRecDepth 100000
set_option maxHeartbeats 4000000
set_option pp.maxSteps 400
set_option pp.deepTerms false
namespace Lv
open PySem PySem.Spec PyProof.Rows L2 StX
local macro_rules
  | `(tactic| walk_at "lv1") => `(tactic| with_reducible (first
    | refine s_set ?_ | refine s_ret ?_ | refine s_if ?_ | refine s_drop ?_ | refine s_next ?_ | refine s_par ?_ | refine s_par3 ?_ | refine s_subL ?_ | refine s_unl2 ?_ | refine s_tup2 ?_ | refine eg_unl2 ?_ | refine eg_unl3 ?_ | refine eg_tup2 ?_
    | refine ev_var rfl ?_ | refine ev_int ?_ | refine ev_str ?_ | refine ev_bl ?_ | refine ev_non ?_ | refine ev_ref ?_
    | refine ev_lst0 ?_ | refine ev_eqE ?_ | refine ev_neE ?_ | refine ev_op ?_ | refine ev_un ?_ | refine ev_isiLT ?_ | refine ev_isi ?_ | refine ev_cb ?_ | refine ev_chain ?_ | refine ev_andV ?_ | refine ev_orV ?_ | refine ev_notV ?_ | refine ev_if ?_ | refine ev_tup ?_ | refine ev_call ?_
    | refine et_and ?_ | refine et_or ?_ | refine et_not ?_ | refine et_test ?_ | refine et_b ?_ | refine et_yes ?_
    | refine ea_cons ?_ | refine ea_nil ?_
    | refine g_int2 ?_ | refine g_bl ?_ | refine g_int ?_ | refine g_addI ?_ | refine g_eqI ?_ | refine g_eqSt ?_ | refine g_eqSf (by decide +kernel) ?_ | refine g_eqS ?_ | refine g_eqIS ?_ | refine g_eqSI ?_ | refine g_eqNS ?_ | refine g_isn ?_
    | refine g_par ?_ | refine g_par3 ?_ | refine g_neg ?_
    | refine g_ifT ?_ | refine g_ifNT ?_ | refine g_ifNF ?_ | refine g_ifF ?_ | refine g_ifD ?_ ?_ | refine g_ifDN ?_ ?_
    | refine eg_name ?_ | refine eg_setL ?_))
local macro_rules
  | `(tactic| walk_at "lvM") => `(tactic| first | assumption | exact mupd_same)
local macro_rules
  | `(tactic| walk_at "lvW") => `(tactic| with_unfolding_all rfl)
local macro_rules
  | `(tactic| walk_at "lvA") => `(tactic| first | with_unfolding_all rfl | with_unfolding_all exact atI_nat 0 rfl | with_unfolding_all exact atI_nat 1 rfl)
local macro_rules
  | `(tactic| walk_at "lv2") => `(tactic| with_reducible (first
    | refine ⟨_, _, (by walk_at "lvW"), kb_ii, ?_⟩ | refine ⟨_, _, (by walk_at "lvW"), kb_ib, ?_⟩ | refine ⟨_, _, (by walk_at "lvW"), kb_is, ?_⟩ | refine ⟨_, _, (by walk_at "lvW"), kb_ss, ?_⟩ | refine ⟨_, _, (by walk_at "lvW"), kb_tt, ?_⟩
    | refine .inl ⟨_, _, rfl, IsS.q, ?_⟩ | refine .inl ⟨_, _, rfl, IsS.r (by walk_at "lvM"), ?_⟩ | refine .inl ⟨_, _, rfl, IsS.sc, ?_⟩
    | refine .inl ⟨_, _, IsS.q, (by walk_at "lvA"), ?_⟩ | refine .inl ⟨_, _, IsS.r (by walk_at "lvM"), (by walk_at "lvA"), ?_⟩
    | refine .inl (g_int2 (And.intro (CMul.l (by omega) (by omega)) ?_)) | refine .inl (g_int2 (And.intro (CMul.r (by omega) (by omega)) ?_))
    | refine And.intro (CDiv.mk (by omega) (by omega)) ?_ | refine And.intro (by omega) ?_ | refine And.intro (Nat.le_of_ble_eq_true (by walk_at "lvW")) ?_
    | refine .inl ⟨_, _, rfl, ?_⟩
    | refine .inl ⟨_, rfl, ?_⟩ | refine .inr ⟨_, rfl, ?_⟩
    | refine ⟨_, _, _, _, rfl, (by walk_at "lvM"), rfl, (by walk_at "lvW"), ?_⟩
    | refine ⟨_, _, rfl, IsL.q, ?_⟩
    | refine ⟨_, rfl, .inl ⟨_, _, IsS.q, (by walk_at "lvA"), ?_⟩⟩))
local macro_rules
  | `(tactic| walk_at "lvm") => `(tactic| repeat' (first | walk_at "lv1" | (with_reducible refine s_seq ?_) | walk_at "lv2" | dsimp only))
local macro_rules
  | `(tactic| walk_at "lve") => `(tactic| repeat' (first | walk_at "lv1" | (with_reducible refine ev_lst ?_) | walk_at "lv2" | dsimp only))
local macro_rules
  | `(tactic| walk_at "lv") => `(tactic| repeat' (first | walk_at "lv1" | (with_reducible refine ev_lst ?_) | (with_reducible refine s_seq ?_) | walk_at "lv2" | dsimp only))
local macro_rules
  | `(tactic| walk_at "lve0") => `(tactic| repeat' (first
    | (with_reducible first | refine ev_var rfl ?_ | refine ev_int ?_ | refine ev_str ?_ | refine et_test ?_ | refine ev_eqE ?_ | refine ev_op ?_ | refine g_bl ?_ | refine g_eqI ?_ | refine g_eqSt ?_ | refine g_eqSf (by decide +kernel) ?_ | refine g_eqS ?_ | refine g_int ?_ | refine g_ifT ?_ | refine g_ifF ?_ | refine g_ifD ?_ ?_) | walk_at "lv2" | dsimp only))
local macro_rules
  | `(tactic| walk_at "lvx") => `(tactic| repeat' (first | (refine fun hx => absurd hx ?_; (with_reducible fail_if_success assumption); simp; done) | (refine fun _ => ?_; walk_at "lv")))
def below : Tr → List Tr
  | .use _ => []
  | .join _ ts => ts
  | .bind _ ts b => ts ++ [b]
def dN (xs : List Nat) : List D := xs.map fun i => .int (i : Nat)
def dSpot (e : En) : D := .sq true [.int (e.ix : Nat), dT e.tr, .sq true (dN e.an)]
theorem szl {n : Nat} (h : n ≤ 1000) : n ≤ sizeLine := by simp only [sizeLine]; omega
def W_law_below : Fw := fun ds M P => ∃ t, ds = [dT t] ∧ nodes t ≤ 25 ∧ P (.sq true (dTs (below t))) M
def N_law_below : List Str := ["_law_tree_here"]
def P_law_below : List Str := ["_law_tree_here"]
theorem sc_law_below : FnScope N_law_below P_law_below (defScope s_law_below) := ⟨rfl, rfl, rfl, by decide +kernel, rfl, by decide +kernel, by decide +kernel⟩
theorem h_law_below {z : Cz} {mg : Str → Option Value} {base : Heap} {CF CT : Addr} (G : Gf z mg CF CT) (Dd : Df z mg "_law_below" s_law_below)  : Has z mg base "_law_below" P_law_below (0 + 1) (W_law_below) := by
  refine okDf Dd sc_law_below (fun _ _ _ _ _ _ us hl => match us, hl with | [_], _ => rfl) (fun ds M P hw => ?_) (fun f cdv A outer s H E hr ds M P hw => ?_)
  · obtain ⟨t, rfl, _⟩ := hw
    rfl
  obtain ⟨t, rfl, hn, k⟩ := hw
  refine ⟨_, (pss_cons (ps_if (pt_cmpR (zo_eq z hr) (zx_ix z (pv 0) pe_int) pe_str (nomark _)) (pss_one (ps_ret (pe_lst pa_nil))) pss_nil) (pss_one (ps_ret (pe_ifExp (pt_cmpR (zo_eq z hr) (zx_ix z (pv 0) pe_int) pe_str (nomark _)) (pe_callTy (zc_list z) rfl G.list boot_list (pa_cons (zx_ix z (pv 0) pe_int) pa_nil)) (pe_op ox_add (pe_callTy (zc_list z) rfl G.list boot_list (pa_cons (zx_ix z (pv 0) pe_int) pa_nil)) (pe_lst (pa_cons (zx_ix z (pv 0) pe_int) pa_nil))))))), ?_⟩
  cases t with
  | use n =>
    rw [dT]
    rw [below, dTs] at k
    walk_at "lve"
    refine s_seq ?_
    refine s_if ?_
    walk_at "lve0"
    exact s_ret (ev_lst (ea_nil ⟨by simp, k⟩))
  | join l ts =>
    rw [dT]
    rw [below] at k
    rw [nodes] at hn
    have hz := nodesL_len ts
    refine s_seq ?_
    walk_at "lve"
    exact ⟨by rw [dTs_len]; exact szl (by omega), .inl k⟩
  | bind l ts b =>
    rw [dT]
    rw [below] at k
    rw [nodes] at hn
    have hz := nodesL_len ts
    refine s_seq ?_
    walk_at "lve"
    refine ⟨by rw [dTs_len]; exact szl (by omega), .inl ?_⟩
    walk_at "lve"
    refine .inr (.inr ⟨_, _, .q, .q, ?_, .inl ?_⟩)
    · rw [List.length_append, dTs_len]; exact szl (by simp; omega)
    · rw [dTs_append, dTs, dTs] at k; exact k
theorem fxL_app (An A : List Nat) : ∀ (ts us : List Tr) (f k : Nat), fxL (ts ++ us) An A f k = fxL ts An A f k ++ fxL us An A (f + nodesL ts) (k + binsL ts)
  | [], us, f, k => by rw [List.nil_append, fxL, List.nil_append, nodesL, binsL]; rfl
  | t :: ts, us, f, k => by rw [List.cons_append, fxL, fxL, fxL_app An A ts us, List.append_assoc, nodesL, binsL, Nat.add_assoc, Nat.add_assoc]
theorem fxL_len (An A : List Nat) : ∀ (ts : List Tr) (f k : Nat), (fxL ts An A f k).length = nodesL ts
  | [], f, k => by rw [fxL, nodesL]; rfl
  | t :: ts, f, k => by rw [fxL, List.length_append, fx_len, fxL_len An A ts, nodesL]
theorem nodesL_take (ts : List Tr) (i : Nat) : nodesL (ts.take i) ≤ nodesL ts := by
  have h := nodesL_append (ts.take i) (ts.drop i)
  rw [List.take_append_drop] at h
  omega
theorem nodesL_mem {t : Tr} : ∀ {ts : List Tr}, t ∈ ts → nodes t ≤ nodesL ts := by
  intro ts
  induction ts with
  | nil => intro h; cases h
  | cons u us ih2 =>
    intro h
    rw [nodesL]
    rcases List.mem_cons.mp h with e | e
    · rw [e]; omega
    · have := ih2 e; omega
def W_law_spots (n : Nat) : Fw := fun ds M P => ∃ (t : Tr) (An A : List Nat) (f k : Nat), ds = [dT t, .sq true (dN An), .int (f : Nat)] ∧ nodes t ≤ n ∧ nodes t ≤ 25 ∧ nodes t + An.length ≤ 30 ∧ P (.sq true ((fx t An A f k).map dSpot)) M
def bpart (l : Str) (ts : List Tr) (b : Tr) (An A : List Nat) (f k i : Nat) : List En :=
  if i ≤ ts.length then fxL (ts.take i) An A (f + 1) (k + 1) else fxL ts An A (f + 1) (k + 1) ++ fx b (An ++ [f]) (A ++ [k]) (f + 1 + nodesL ts) (k + 1 + binsL ts)
def P_law_spots : List Str := ["_law_tree_here", "_law_around", "_law_first"]
def N_law_spots : List Str := ["_law_tree_here", "_law_around", "_law_first", "_law_found", "_law_spot", "_law_one_here", "_law_inside_here"]
theorem sc_law_spots : FnScope N_law_spots P_law_spots (defScope s_law_spots) := ⟨rfl, rfl, rfl, by decide +kernel, rfl, by decide +kernel, by decide +kernel⟩
theorem h_law_spots {z : Cz} {mg : Str → Option Value} {base : Heap} {CF CT : Addr} (G : Gf z mg CF CT) (Dd : Df z mg "_law_spots" s_law_spots) {n : Nat} (H_law_below : Has z mg base "_law_below" P_law_below 1 W_law_below) (H_law_spots : Has z mg base "_law_spots" P_law_spots (1 + n) (W_law_spots n)) : Has z mg base "_law_spots" P_law_spots (1 + n + 1) (W_law_spots  (n + 1)) := by
  refine okDf Dd sc_law_spots (fun _ _ _ _ _ _ us hl => match us, hl with | [_, _, _], _ => rfl) (fun ds M P hw => ?_) (fun f cdv A outer s H E hr ds M P hw => ?_)
  · obtain ⟨t, An, A, f, k, rfl, _⟩ := hw
    rfl
  obtain ⟨t, An, A, f, k, rfl, hn, hn2, hA, kk⟩ := hw
  refine ⟨_, (pss_cons (ps_set (i := 3) sc_law_spots.nd rfl (.inl rfl) (pe_lst (pa_cons (pe_lst (pa_cons (pv 2) (pa_cons (pv 0) (pa_cons (pv 1) pa_nil)))) pa_nil))) (pss_cons (ps_for PassesOwn.never rfl (zi_enum z G.enumerate (pa_cons (px_call H_law_below (hr.mono (by omega)) rfl (pa_cons (pv 0) pa_nil)) pa_nil)) (zg_tup (n := 2) z (pgs_cons (pg_name (i := 4) sc_law_spots.nd rfl (.inl rfl)) (pgs_cons (pg_name (i := 5) sc_law_spots.nd rfl (.inl rfl)) pgs_nil))) (pss_cons (ps_set (i := 6) sc_law_spots.nd rfl (.inl rfl) (pv 1)) (pss_cons (ps_if (PW.pt (pw_and (pt_cmpR (zo_eq z hr) (zx_ix z (pv 0) pe_int) pe_str (nomark _)) (pw_and1 (pt_cmpR (zo_eq z hr) (pv 4) (pe_callB (zc_len z) rfl G.len boot_len (pa_cons (zx_ix z (pv 0) pe_int) pa_nil)) (nomark _))))) (pss_one (ps_set (i := 6) sc_law_spots.nd rfl (.inl rfl) (pe_op ox_add (pv 1) (pe_lst (pa_cons (pv 2) pa_nil))))) pss_nil) (pss_one (ps_set (i := 3) sc_law_spots.nd rfl (.inl rfl) (pe_op ox_add (pv 3) (px_call H_law_spots (hr.mono (by omega)) rfl (pa_cons (pv 5) (pa_cons (pv 6) (pa_cons (pe_op ox_add (pv 2) (pe_callB (zc_len z) rfl G.len boot_len (pa_cons (pv 3) pa_nil))) pa_nil)))))))))) (pss_one (ps_ret (pv 3))))), ?_⟩
  walk_at "lve"
  refine s_seq ?_
  walk_at "lve"
  refine s_seq (s_for (js := [4, 5]) (ei_enum ?_))
  walk_at "lve"
  refine ⟨t, rfl, hn2, ?_⟩
  cases t with
  | use m =>
    walk_at "lve"
    refine ⟨_, _, rfl, .q, fun i γ m' => i = 0 ∧ m' = M ∧ γ = _, ⟨rfl, rfl, rfl⟩, fun _ _ _ _ _ => .q, ?_, ?_⟩
    · rintro i x γ m' hx _
      rw [below, dTs] at hx
      simp [pairs] at hx
    · rintro γ m' ⟨-, rfl, rfl⟩
      walk_at "lve"
      rw [fx] at kk
      exact kk
  | join l ts =>
    rw [nodes] at hn hn2 hA
    rw [fx] at kk
    walk_at "lve"
    refine ⟨_, _, rfl, .q, fun i γ m' => ∃ c d e, m' = M ∧ γ = [some (dT (.join l ts)), some (.sq true (dN An)), some (.int (f : Nat)), some (.sq true ((⟨f, k, .join l ts, An, A⟩ :: fxL (ts.take i) An A (f + 1) k).map dSpot)), c, d, e], ⟨none, none, none, rfl, ?_⟩, fun _ _ _ _ _ => .q, ?_, ?_⟩
    · rw [List.take_zero, fxL]; rfl
    · rintro i x γ m' hx ⟨c, d, e, rfl, rfl⟩
      obtain ⟨y, hy, rfl⟩ := pairs_get hx
      rw [below, dTs_map, List.getElem?_map] at hy
      cases hq : ts[i]? with
      | none => rw [hq] at hy; cases hy
      | some u =>
        rw [hq] at hy
        cases hy
        have hi := (List.getElem?_eq_some_iff.mp hq).1
        have hu := nodesL_mem (List.mem_of_getElem? hq)
        have ht := nodesL_take ts i
        walk_at "lve"
        refine s_seq ?_
        walk_at "lve"
        refine s_seqI (fun γ m1 => m1 = m' ∧ γ = [some (dT (.join l ts)), some (.sq true (dN An)), some (.int (f : Nat)), some (.sq true ((⟨f, k, .join l ts, An, A⟩ :: fxL (ts.take i) An A (f + 1) k).map dSpot)), some (.int i), some (dT u), some (.sq true (dN An))]) ?_ ?_
        · rw [dT]
          walk_at "lve"
          exact ⟨rfl, rfl⟩
        · rintro γ m1 ⟨rfl, rfl⟩
          walk_at "lve"
          refine ⟨u, An, A, f + 1 + nodesL (ts.take i), k + binsL (ts.take i), ?_, by omega, by omega, by omega, ?_⟩
          · have : ((f + 1 + nodesL (ts.take i) : Nat) : Int) = (f : Nat) + ((List.map dSpot (⟨f, k, .join l ts, An, A⟩ :: fxL (ts.take i) An A (f + 1) k)).length : Nat) := by
              rw [List.length_map, List.length_cons, fxL_len]; omega
            rw [this]
          · refine .inr (.inr ⟨_, _, .q, .q, ?_, .inl ?_⟩)
            · rw [List.length_append, List.length_map, List.length_map, List.length_cons, fxL_len, fx_len]; exact szl (by omega)
            · walk_at "lve"
              have e1 : fxL (ts.take (i + 1)) An A (f + 1) k = fxL (ts.take i) An A (f + 1) k ++ fx u An A (f + 1 + nodesL (ts.take i)) (k + binsL (ts.take i)) := by
                rw [List.take_add_one, hq, fxL_app]
                show _ ++ fxL [u] _ _ _ _ = _
                rw [fxL, fxL, List.append_nil]
              exact ⟨_, _, _, rfl, by rw [e1, ← List.cons_append, List.map_append]; rfl⟩
    · rintro γ m' ⟨c, d, e, rfl, rfl⟩
      have hl : (pairs (dTs (below (Tr.join l ts)))).length = ts.length := by simp [pairs, dTs_len, below]
      rw [hl, List.take_length]
      walk_at "lve"
      exact kk
  | bind l ts b =>
    rw [nodes] at hn hn2 hA
    walk_at "lve"
    refine ⟨_, _, rfl, .q, fun i γ m' => ∃ c d e, m' = M ∧ γ = [some (dT (.bind l ts b)), some (.sq true (dN An)), some (.int (f : Nat)), some (.sq true ((⟨f, k, .bind l ts b, An, A⟩ :: bpart l ts b An A f k i).map dSpot)), c, d, e], ⟨none, none, none, rfl, ?_⟩, fun _ _ _ _ _ => .q, ?_, ?_⟩
    · rw [bpart, if_pos (Nat.zero_le _), List.take_zero, fxL]; rfl
    · rintro i x γ m' hx ⟨c, d, e, rfl, rfl⟩
      obtain ⟨y, hy, rfl⟩ := pairs_get hx
      rw [below, dTs_map, List.getElem?_map] at hy
      by_cases hi : i < ts.length
      · rw [List.getElem?_append_left hi] at hy
        cases hq : ts[i]? with
        | none => rw [hq] at hy; cases hy
        | some u =>
          rw [hq] at hy
          cases hy
          have hu := nodesL_mem (List.mem_of_getElem? hq)
          have ht := nodesL_take ts i
          walk_at "lve"
          refine s_seq ?_
          walk_at "lve"
          refine s_seqI (fun γ m1 => m1 = m' ∧ γ = [some (dT (.bind l ts b)), some (.sq true (dN An)), some (.int (f : Nat)), some (.sq true ((⟨f, k, .bind l ts b, An, A⟩ :: bpart l ts b An A f k i).map dSpot)), some (.int i), some (dT u), some (.sq true (dN An))]) ?_ ?_
          · rw [dT]
            walk_at "lve"
            · intro hc
              rw [dTs_len] at hc
              omega
            · intro _
              walk_at "lve"
              exact ⟨rfl, rfl⟩
          · rintro γ m1 ⟨rfl, rfl⟩
            rw [bpart, if_pos (by omega : i ≤ ts.length)]
            walk_at "lve"
            refine ⟨u, An, A, f + 1 + nodesL (ts.take i), k + 1 + binsL (ts.take i), ?_, by omega, by omega, by omega, ?_⟩
            · have : ((f + 1 + nodesL (ts.take i) : Nat) : Int) = (f : Nat) + ((List.map dSpot (⟨f, k, .bind l ts b, An, A⟩ :: fxL (ts.take i) An A (f + 1) (k + 1))).length : Nat) := by
                rw [List.length_map, List.length_cons, fxL_len]; omega
              rw [this]
            · refine .inr (.inr ⟨_, _, .q, .q, ?_, .inl ?_⟩)
              · rw [List.length_append, List.length_map, List.length_map, List.length_cons, fxL_len, fx_len]; exact szl (by omega)
              · walk_at "lve"
                have e1 : fxL (ts.take (i + 1)) An A (f + 1) (k + 1) = fxL (ts.take i) An A (f + 1) (k + 1) ++ fx u An A (f + 1 + nodesL (ts.take i)) (k + 1 + binsL (ts.take i)) := by
                  rw [List.take_add_one, hq, fxL_app]
                  show _ ++ fxL [u] _ _ _ _ = _
                  rw [fxL, fxL, List.append_nil]
                exact ⟨_, _, _, rfl, by rw [bpart, if_pos (by omega : i + 1 ≤ ts.length), e1, ← List.cons_append, List.map_append]; rfl⟩
      · rw [List.getElem?_append_right (by omega)] at hy
        have hi2 : i = ts.length := by
          cases hq : [b][i - ts.length]? with
          | none => rw [hq] at hy; cases hy
          | some u =>
            have := (List.getElem?_eq_some_iff.mp hq).1
            simp at this
            omega
        subst hi2
        simp at hy
        subst hy
        walk_at "lve"
        refine s_seq ?_
        walk_at "lve"
        refine s_seqI (fun γ m1 => m1 = m' ∧ γ = [some (dT (.bind l ts b)), some (.sq true (dN An)), some (.int (f : Nat)), some (.sq true ((⟨f, k, .bind l ts b, An, A⟩ :: bpart l ts b An A f k ts.length).map dSpot)), some (.int (ts.length : Nat)), some (dT b), some (.sq true (dN (An ++ [f])))]) ?_ ?_
        · rw [dT]
          walk_at "lve"
          · intro _
            walk_at "lve"
            refine .inr (.inr ⟨_, _, .q, .q, ?_, .inl ?_⟩)
            · rw [List.length_append]; unfold dN; rw [List.length_map]; exact szl (by simp; omega)
            · walk_at "lve"
              refine ⟨rfl, ?_⟩
              unfold dN
              rw [List.map_append]; rfl
          · intro hc
            rw [dTs_len] at hc
            exact absurd rfl hc
        · rintro γ m1 ⟨rfl, rfl⟩
          rw [bpart, if_pos (Nat.le_refl _), List.take_length]
          walk_at "lve"
          refine ⟨b, An ++ [f], A ++ [k], f + 1 + nodesL ts, k + 1 + binsL ts, ?_, by omega, by omega, by simp; omega, ?_⟩
          · have : ((f + 1 + nodesL ts : Nat) : Int) = (f : Nat) + ((List.map dSpot (⟨f, k, .bind l ts b, An, A⟩ :: fxL ts An A (f + 1) (k + 1))).length : Nat) := by
              rw [List.length_map, List.length_cons, fxL_len]; omega
            rw [this]
          · refine .inr (.inr ⟨_, _, .q, .q, ?_, .inl ?_⟩)
            · rw [List.length_append, List.length_map, List.length_map, List.length_cons, fxL_len, fx_len]; exact szl (by omega)
            · walk_at "lve"
              exact ⟨_, _, _, rfl, by rw [bpart, if_neg (by omega : ¬ ts.length + 1 ≤ ts.length), ← List.cons_append, List.map_append]; rfl⟩
    · rintro γ m' ⟨c, d, e, rfl, rfl⟩
      have hl : (pairs (dTs (below (Tr.bind l ts b)))).length = ts.length + 1 := by simp [pairs, dTs_len, below]
      rw [hl, bpart, if_neg (by omega : ¬ ts.length + 1 ≤ ts.length)]
      walk_at "lve"
      rw [fx] at kk
      exact kk
end Lv

set_option Elab.async false
set_option linter.all false
set_option maxRecDepth 100000
set_option maxHeartbeats 4000000
set_option pp.maxSteps 400
set_option pp.deepTerms false
namespace Lv
open PySem PySem.Spec PyProof.Rows L2 StX
local macro_rules
  | `(tactic| walk_at "lv1") => `(tactic| with_reducible (first
    | refine s_set ?_ | refine s_ret ?_ | refine s_if ?_ | refine s_drop ?_ | refine s_next ?_ | refine s_par ?_ | refine s_par3 ?_ | refine s_subL ?_ | refine s_unl2 ?_ | refine s_tup2 ?_ | refine eg_unl2 ?_ | refine eg_unl3 ?_ | refine eg_tup2 ?_
    | refine ev_var rfl ?_ | refine ev_int ?_ | refine ev_str ?_ | refine ev_bl ?_ | refine ev_non ?_ | refine ev_ref ?_
    | refine ev_lst0 ?_ | refine ev_eqE ?_ | refine ev_neE ?_ | refine ev_op ?_ | refine ev_un ?_ | refine ev_isiLT ?_ | refine ev_isi ?_ | refine ev_cb ?_ | refine ev_chain ?_ | refine ev_andV ?_ | refine ev_orV ?_ | refine ev_notV ?_ | refine ev_if ?_ | refine ev_tup ?_ | refine ev_call ?_
    | refine et_and ?_ | refine et_or ?_ | refine et_not ?_ | refine et_test ?_ | refine et_b ?_ | refine et_yes ?_
    | refine ea_cons ?_ | refine ea_nil ?_
    | refine g_int2 ?_ | refine g_bl ?_ | refine g_int ?_ | refine g_addI ?_ | refine g_eqI ?_ | refine g_eqSt ?_ | refine g_eqSf (by decide +kernel) ?_ | refine g_eqS ?_ | refine g_eqIS ?_ | refine g_eqSI ?_ | refine g_eqNS ?_ | refine g_isn ?_
    | refine g_par ?_ | refine g_par3 ?_ | refine g_neg ?_
    | refine g_ifT ?_ | refine g_ifNT ?_ | refine g_ifNF ?_ | refine g_ifF ?_ | refine g_ifD ?_ ?_ | refine g_ifDN ?_ ?_
    | refine eg_name ?_ | refine eg_setL ?_))
local macro_rules
  | `(tactic| walk_at "lvM") => `(tactic| first | assumption | exact mupd_same)
local macro_rules
  | `(tactic| walk_at "lvW") => `(tactic| with_unfolding_all rfl)
local macro_rules
  | `(tactic| walk_at "lvA") => `(tactic| first | with_unfolding_all rfl | with_unfolding_all exact atI_nat 0 rfl | with_unfolding_all exact atI_nat 1 rfl)
local macro_rules
  | `(tactic| walk_at "lv2") => `(tactic| with_reducible (first
    | refine ⟨_, _, (by walk_at "lvW"), kb_ii, ?_⟩ | refine ⟨_, _, (by walk_at "lvW"), kb_ib, ?_⟩ | refine ⟨_, _, (by walk_at "lvW"), kb_is, ?_⟩ | refine ⟨_, _, (by walk_at "lvW"), kb_ss, ?_⟩ | refine ⟨_, _, (by walk_at "lvW"), kb_tt, ?_⟩
    | refine .inl ⟨_, _, rfl, IsS.q, ?_⟩ | refine .inl ⟨_, _, rfl, IsS.r (by walk_at "lvM"), ?_⟩ | refine .inl ⟨_, _, rfl, IsS.sc, ?_⟩
    | refine .inl ⟨_, _, IsS.q, (by walk_at "lvA"), ?_⟩ | refine .inl ⟨_, _, IsS.r (by walk_at "lvM"), (by walk_at "lvA"), ?_⟩
    | refine .inl (g_int2 (And.intro (CMul.l (by omega) (by omega)) ?_)) | refine .inl (g_int2 (And.intro (CMul.r (by omega) (by omega)) ?_))
    | refine And.intro (CDiv.mk (by omega) (by omega)) ?_ | refine And.intro (by omega) ?_ | refine And.intro (Nat.le_of_ble_eq_true (by walk_at "lvW")) ?_
    | refine .inl ⟨_, _, rfl, ?_⟩
    | refine .inl ⟨_, rfl, ?_⟩ | refine .inr ⟨_, rfl, ?_⟩
    | refine ⟨_, _, _, _, rfl, (by walk_at "lvM"), rfl, (by walk_at "lvW"), ?_⟩
    | refine ⟨_, _, rfl, IsL.q, ?_⟩
    | refine ⟨_, rfl, .inl ⟨_, _, IsS.q, (by walk_at "lvA"), ?_⟩⟩))
local macro_rules
  | `(tactic| walk_at "lvm") => `(tactic| repeat' (first | walk_at "lv1" | (with_reducible refine s_seq ?_) | walk_at "lv2" | dsimp only))
local macro_rules
  | `(tactic| walk_at "lve") => `(tactic| repeat' (first | walk_at "lv1" | (with_reducible refine ev_lst ?_) | walk_at "lv2" | dsimp only))
local macro_rules
  | `(tactic| walk_at "lv") => `(tactic| repeat' (first | walk_at "lv1" | (with_reducible refine ev_lst ?_) | (with_reducible refine s_seq ?_) | walk_at "lv2" | dsimp only))
local macro_rules
  | `(tactic| walk_at "lve0") => `(tactic| repeat' (first
    | (with_reducible first | refine ev_var rfl ?_ | refine ev_int ?_ | refine ev_str ?_ | refine et_test ?_ | refine ev_eqE ?_ | refine ev_op ?_ | refine g_bl ?_ | refine g_eqI ?_ | refine g_eqSt ?_ | refine g_eqSf (by decide +kernel) ?_ | refine g_eqS ?_ | refine g_int ?_ | refine g_ifT ?_ | refine g_ifF ?_ | refine g_ifD ?_ ?_) | walk_at "lv2" | dsimp only))
local macro_rules
  | `(tactic| walk_at "lvx") => `(tactic| repeat' (first | (refine fun hx => absurd hx ?_; (with_reducible fail_if_success assumption); simp; done) | (refine fun _ => ?_; walk_at "lv")))
def kind : Tr → Str
  | .use _ => "use"
  | .join _ _ => "join"
  | .bind _ _ _ => "bind"
theorem dT_shape (t : Tr) : ∃ rest, dT t = .sq false (.str (kind t) :: .str (lab t) :: rest) := by
  cases t with
  | use n => exact ⟨[], by rw [dT]; rfl⟩
  | join l ts => exact ⟨_, by rw [dT]; rfl⟩
  | bind l ts b => exact ⟨_, by rw [dT]; rfl⟩
theorem kind_bind (t : Tr) : decide (kind t = "bind") = isBind t := by
  have h1 : decide ((("use" : Str)) = "bind") = false := by decide +kernel
  have h2 : decide ((("join" : Str)) = "bind") = false := by decide +kernel
  have h3 : decide ((("bind" : Str)) = "bind") = true := by decide +kernel
  cases t <;> assumption
theorem kind_use (t : Tr) : decide (kind t = "use") = isUse t := by
  have h1 : decide ((("use" : Str)) = "use") = true := by decide +kernel
  have h2 : decide ((("join" : Str)) = "use") = false := by decide +kernel
  have h3 : decide ((("bind" : Str)) = "use") = false := by decide +kernel
  cases t <;> assumption
def dUse (nm : List Str) (u : Str × List Nat) : D := .sq true [.str u.1, .sq true (dN u.2), kD (mng nm u)]
def dAr (A : List Nat) : D := .sq true (dN A)
def pg0 (S : Scn) (X Y : D) : List (Key × D) := [(.inr "names", .sq true (S.nm.map D.str)), (.inr "uses", .sq true (S.us.map (dUse S.nm))), (.inr "around", .sq true (S.ar.map dAr)), (.inr "all", X), (.inr "nodes", Y)]
theorem dN_zip {a b : List Nat} (h : a.length = b.length) : dN a = (a.zip b).map (fun p => D.int (p.1 : Nat)) ∧ dN b = (a.zip b).map (fun p => D.int (p.2 : Nat)) := by
  constructor
  · unfold dN
    rw [← List.map_fst_zip (l₁ := a) (l₂ := b) (by omega), List.map_map]
    simp [List.map_fst_zip (l₁ := a) (l₂ := b) (by omega)]
  · unfold dN
    rw [← List.map_snd_zip (l₁ := a) (l₂ := b) (by omega), List.map_map]
    simp [List.map_snd_zip (l₁ := a) (l₂ := b) (by omega)]
theorem eqV_nat {a b : Nat} : eqV (fv (.int (a : Nat))) (fv (.int (b : Nat))) = decide (a = b) := by
  show ((a : Int) == (b : Int)) = _
  by_cases h : a = b
  · subst h; simp
  · rw [decide_eq_false h]; simp; omega
/-- [nodes.index(place) for place in around] -/
theorem ev_within {z : Cz} {Γ : Gam} {M : Mem} {P : D → Mem → Prop} {t : Tr} {e : En} {a j i5 : Nat} (he : e ∈ fx t [] [] 0 0) (hn : nodes t ≤ 25) (ha : Γ[a]? = some (some (.sq true (dN e.an))))
    (h5 : ∀ x : D, ((wipeG Γ [j]).set j (some x))[i5]? = some (some (.sq true (dN ((bnd (fx t [] [] 0 0)).map En.ix))))) (hj : ∀ x : D, ((wipeG Γ [j]).set j (some x))[j]? = some (some x))
    (hl : e.an.length ≤ 1000) (k : P (.sq true (dN e.ab)) M) : EV z (tLc (iSeqU z.K (tVar a)) (gName j) tYes (tBM z.K "list" (rIdxU z.K) (tVar i5) (tCons (tVar j) tNil)) [j]) Γ M P := by
  obtain ⟨hlen, _⟩ := fx_fit0 t e he
  obtain ⟨z1, z2⟩ := dN_zip hlen
  refine ev_lcA [j] (fun _ h => h) (e.an.zip e.ab) (fun p => D.int (p.1 : Nat)) (fun p => D.int (p.2 : Nat)) (ei_seq (ev_var ha ⟨_, .q, z1, ?_, .q, ?_, ?_, .inl ?_⟩))
  · rw [List.length_zip]; exact szl (by omega)
  · intro i p hp
    refine eg_name ⟨rfl, ev_bm (ev_var (h5 _) ⟨⟨_, .inr rfl⟩, ea_cons (ev_var (hj _) (ea_nil ?_))⟩)⟩
    obtain ⟨h1, h2⟩ := List.getElem?_zip_eq_some.mp hp
    have hx := idx_ok t he h2 h1
    refine ⟨_, _, p.2, _, .q, rfl, rfl, flat_map (fun _ => rfl) _, by unfold dN; rw [List.getElem?_map, hx]; rfl, by rw [eqV_nat, decide_eq_true rfl], fun m u hm hu => ?_, rfl, rfl⟩
    unfold dN at hu
    rw [List.getElem?_map] at hu
    cases q : ((bnd (fx t [] [] 0 0)).map En.ix)[m]? with
    | none => rw [q] at hu; cases hu
    | some y =>
      rw [q] at hu
      cases hu
      rw [eqV_nat]
      refine decide_eq_false fun hy => ?_
      rw [hy] at q
      have := ix_inj t m p.2 _ q hx
      omega
  · rw [List.length_map, List.length_zip]; exact szl (by omega)
  · rw [← z2]; exact k
def W_law_page : Fw := fun ds M P => ∃ (t : Tr), ds = [dT t] ∧ OkT t ∧ nodes t ≤ 25 ∧ ∀ X Y p, M p = none → P (.ref p) (mupd M p (.dK (pg0 (scn t) X Y)))
def N_law_page : List Str := ["_law_tree_here", "_law_spots_here", "_law_spot", "_law_one_here", "_law_around", "_law_nodes", "_law_page_here", "_law_within", "_law_meant", "_law_place", "_law_binder"]
def P_law_page : List Str := ["_law_tree_here"]
theorem sc_law_page : FnScope N_law_page P_law_page (defScope s_law_page) := ⟨rfl, rfl, rfl, by decide +kernel, rfl, by decide +kernel, by decide +kernel⟩
theorem h_law_page {z : Cz} {mg : Str → Option Value} {base : Heap} {CF CT : Addr} (G : Gf z mg CF CT) (Dd : Df z mg "_law_page" s_law_page) (H_law_spots : Has z mg base "_law_spots" P_law_spots (1 + 25) (W_law_spots 25)) : Has z mg base "_law_page" P_law_page (1 + 26 + 1) (W_law_page) := by
  refine okDf Dd sc_law_page (fun _ _ _ _ _ _ us hl => match us, hl with | [_], _ => rfl) (fun ds M P hw => ?_) (fun f cdv A outer s H E hr ds M P hw => ?_)
  · obtain ⟨t, rfl, _⟩ := hw
    rfl
  obtain ⟨t, rfl, ho, hn, kk⟩ := hw
  refine ⟨_, (pss_cons (ps_set (i := 1) sc_law_page.nd rfl (.inl rfl) (px_call H_law_spots (hr.mono (by omega)) rfl (pa_cons (pv 0) (pa_cons (pe_lst pa_nil) (pa_cons pe_int pa_nil))))) (pss_cons (ps_set (i := 5) sc_law_page.nd rfl (.inr rfl) (pe_lc (own := [("_law_spot", 2), ("_law_one_here", 3), ("_law_around", 4)]) rfl sc_law_page.nd (zi_seq z (pv 1)) (blkOk_by (N := N_law_page) (sc := defScope s_law_page) (by decide +kernel)) (fun _ _ _ _ _ => (zg_unl (n := 3) z (pgs_cons (pg_name (i := 2) sc_law_page.nd rfl (.inl rfl)) (pgs_cons (pg_name (i := 3) sc_law_page.nd rfl (.inl rfl)) (pgs_cons (pg_name (i := 4) sc_law_page.nd rfl (.inl rfl)) pgs_nil))))) (fun _ _ _ _ _ => (pts_one (pt_cmpR (zo_eq z hr) (zx_ix z (pv 3) pe_int) pe_str (nomark _)))) (fun _ _ _ _ _ => (pv 2)))) (pss_cons (ps_set (i := 6) sc_law_page.nd rfl (.inr rfl) (pe_disp (pps_cons pe_str (pe_lc (own := [("_law_spot", 2), ("_law_one_here", 3), ("_law_around", 4)]) rfl sc_law_page.nd (zi_seq z (pv 1)) (blkOk_by (N := N_law_page) (sc := defScope s_law_page) (by decide +kernel)) (fun _ _ _ _ _ => (zg_unl (n := 3) z (pgs_cons (pg_name (i := 2) sc_law_page.nd rfl (.inl rfl)) (pgs_cons (pg_name (i := 3) sc_law_page.nd rfl (.inl rfl)) (pgs_cons (pg_name (i := 4) sc_law_page.nd rfl (.inl rfl)) pgs_nil))))) (fun _ _ _ _ _ => (pts_one (pt_cmpR (zo_eq z hr) (zx_ix z (pv 3) pe_int) pe_str (nomark _)))) (fun _ _ _ _ _ => (zx_ix z (pv 3) pe_int))) (pps_cons pe_str (pe_lst pa_nil) (pps_cons pe_str (pe_lst pa_nil) pps_nil))) rfl rfl (by simp) (by decide))) (pss_cons (ps_asg (pe_tup (pa_cons (pe_lc (own := [("_law_spot", 2), ("_law_one_here", 3), ("_law_around", 4)]) rfl sc_law_page.nd (zi_seq z (pv 1)) (blkOk_by (N := N_law_page) (sc := defScope s_law_page) (by decide +kernel)) (fun _ _ _ _ _ => (zg_unl (n := 3) z (pgs_cons (pg_name (i := 2) sc_law_page.nd rfl (.inl rfl)) (pgs_cons (pg_name (i := 3) sc_law_page.nd rfl (.inl rfl)) (pgs_cons (pg_name (i := 4) sc_law_page.nd rfl (.inl rfl)) pgs_nil))))) (fun _ _ _ _ _ => pts_nil) (fun _ _ _ _ _ => (pe_lc (own := [("_law_place", 9)]) rfl sc_law_page.nd (zi_seq z (pv 4)) (blkOk_by (N := N_law_page)  (by exact rfl)) (fun _ _ _ _ _ => (pg_name (i := 9) sc_law_page.nd rfl (.inl rfl))) (fun _ _ _ _ _ => pts_nil) (fun _ _ _ _ _ => (zx_bm z PySem.F.plainAttrs_list PySem.F.slot_list_index PySem.F.type_list_index (xm_index z) (pv 5) (pa_cons (pv 9) pa_nil)))))) (pa_cons (pv 5) pa_nil))) (zg_tup (n := 2) z (pgs_cons (pg_sub (pv 6) pe_str (set_dict (hu_of hr))) (pgs_cons (pg_sub (pv 6) pe_str (set_dict (hu_of hr))) pgs_nil)))) (pss_cons (ps_for PassesOwn.never rfl (zi_seq z (pv 1)) (zg_unl (n := 3) z (pgs_cons (pg_name (i := 2) sc_law_page.nd rfl (.inl rfl)) (pgs_cons (pg_name (i := 3) sc_law_page.nd rfl (.inr rfl)) (pgs_cons (pg_name (i := 4) sc_law_page.nd rfl (.inl rfl)) pgs_nil)))) (pss_cons (ps_setLc (i := 7) (own := [("_law_place", 9)]) rfl sc_law_page.nd rfl rfl (sw_true rfl rfl rfl (by decide +kernel)) (zi_seq z (pv 4)) (blkOk_by (N := N_law_page) (sc := defScope s_law_page) (by decide +kernel)) (fun _ _ _ _ _ => (pg_name (i := 9) sc_law_page.nd rfl (.inl rfl))) (fun _ _ _ _ _ => pts_nil) (fun _ _ _ _ _ => (zx_bm z PySem.F.plainAttrs_list PySem.F.slot_list_index PySem.F.type_list_index (xm_index z) (pv 5) (pa_cons (pv 9) pa_nil)))) (pss_cons (ps_if (pt_cmpR (zo_eq z hr) (zx_ix z (pv 3) pe_int) pe_str (nomark _)) (pss_one (ps_expr (zx_bm z PySem.F.plainAttrs_list PySem.F.slot_list_append PySem.F.type_list_append xm_append (pe_dget (hu_of hr) (pv 6) pe_str (fun _ _ => rfl)) (pa_cons (pv 7) pa_nil)))) pss_nil) (pss_one (ps_if (pt_cmpR (zo_eq z hr) (zx_ix z (pv 3) pe_int) pe_str (nomark _)) (pss_cons (ps_setLc (i := 8) (own := [("_law_binder", 10)]) rfl sc_law_page.nd rfl rfl (sw_true rfl rfl rfl (by decide +kernel)) (zi_seq z (pv 7)) (blkOk_by (N := N_law_page) (sc := defScope s_law_page) (by decide +kernel)) (fun _ _ _ _ _ => (pg_name (i := 10) sc_law_page.nd rfl (.inl rfl))) (fun _ _ _ _ _ => (pts_one (pt_cmpR (zo_eq z hr) (zx_ix z (pe_dget (hu_of hr) (pv 6) pe_str (fun _ _ => rfl)) (pv 10)) (zx_ix z (pv 3) pe_int) (nomark _)))) (fun _ _ _ _ _ => (pv 10))) (pss_one (ps_expr (zx_bm z PySem.F.plainAttrs_list PySem.F.slot_list_append PySem.F.type_list_append xm_append (pe_dget (hu_of hr) (pv 6) pe_str (fun _ _ => rfl)) (pa_cons (pe_lst (pa_cons (zx_ix z (pv 3) pe_int) (pa_cons (pv 7) (pa_cons (pe_ifExp (pt_cmpR (zo_ne z hr) (pv 8) (pe_lst pa_nil) (nomark _)) (zx_ix z (pv 8) (pe_un ox_neg pe_int)) (zx_ix z (pv 3) pe_int)) pa_nil)))) pa_nil))))) pss_nil))))) (pss_one (ps_ret (pv 6)))))))), ?_⟩
  refine s_seq (s_set (ev_call (ea_cons (ev_var rfl (ea_cons (ev_lst (ea_nil ⟨by simp, ?_⟩)))))))
  walk_at "lve"
  refine ⟨t, [], [], 0, 0, rfl, hn, hn, by simp; omega, ?_⟩
  have hL : (fx t [] [] 0 0).length ≤ 25 := by rw [fx_len]; exact hn
  have hLz : (fx t [] [] 0 0).length ≤ sizeLine := szl (by omega)
  refine s_seq (s_set ?_)
  refine ev_lcX [2, 3, 4] (fun _ h => h) (fx t [] [] 0 0) dSpot (fun e => isBind e.tr) (fun e => .int (e.ix : Nat)) (ei_seq (ev_var rfl ⟨_, .q, rfl, hLz, .q, ?_, ?_, .inl ?_⟩))
  · intro i e he
    unfold dSpot
    obtain ⟨rest, hs⟩ := dT_shape e.tr
    rw [hs]
    walk_at "lve"
    refine ⟨rfl, ?_⟩
    walk_at "lve"
    refine ⟨kind_bind e.tr, rfl, fun _ => ?_⟩
    walk_at "lve"
    exact ⟨rfl, rfl⟩
  · rw [List.length_map]; exact Nat.le_trans (List.length_filter_le _ _) hLz
  have eN : ((fx t [] [] 0 0).filter fun e => isBind e.tr).map (fun e => D.int (e.ix : Nat)) = dN ((bnd (fx t [] [] 0 0)).map En.ix) := by unfold dN bnd; rw [List.map_map]; rfl
  rw [eN]
  -- names, empty lists
  refine s_seq (s_set (ev_disp3 ?_))
  refine ev_lcX [2, 3, 4] (fun _ h => h) (fx t [] [] 0 0) dSpot (fun e => isBind e.tr) (fun e => .str (lab e.tr)) (ei_seq (ev_var rfl ⟨_, .q, rfl, hLz, .q, ?_, ?_, .inl ?_⟩))
  · intro i e he
    unfold dSpot
    obtain ⟨rest, hs⟩ := dT_shape e.tr
    rw [hs]
    walk_at "lve"
    refine ⟨rfl, ?_⟩
    walk_at "lve"
    refine ⟨kind_bind e.tr, rfl, fun _ => ?_⟩
    walk_at "lve"
    exact ⟨rfl, rfl⟩
  · rw [List.length_map]; exact Nat.le_trans (List.length_filter_le _ _) hLz
  have eS : ((fx t [] [] 0 0).filter fun e => isBind e.tr).map (fun e => D.str (lab e.tr)) = (scn t).nm.map D.str := by unfold scn bnd; rw [List.map_map]; rfl
  rw [eS]
  refine ev_lst0 fun u hu => ev_lst0 fun r hr2 => fun p hp => ?_
  have hru : r ≠ u := fun e => by rw [e, mupd_same] at hr2; cases hr2
  have hpr : p ≠ r := fun e => by rw [e, mupd_same] at hp; cases hp
  have hp2 : mupd M u (.lst []) p = none := by rw [mupd_ne hpr] at hp; exact hp
  have hpu : p ≠ u := fun e => by rw [e, mupd_same] at hp2; cases hp2
  -- all, nodes
  refine s_seq (s_put2 (ev_tup (ea_cons ?_)))
  refine ev_lcA [2, 3, 4] (fun _ h => h) (fx t [] [] 0 0) dSpot (fun e => dAr e.ab) (ei_seq (ev_var rfl ⟨_, .q, rfl, hLz, .q, ?_, ?_, .inl ?_⟩))
  · intro i e he
    unfold dSpot
    walk_at "lve"
    refine ⟨rfl, ?_⟩
    have he' := List.mem_of_getElem? he
    refine ev_within (t := t) (e := e) he' hn rfl (fun x => rfl) (fun x => rfl) ?_ ⟨rfl, rfl⟩
    have h9 := fx_anl t [] [] 0 0 e he'
    simp at h9
    omega
  · rw [List.length_map]; exact hLz
  have em : mergeD [] [(.inr "names", .sq true ((scn t).nm.map D.str)), (.inr "uses", .ref u), (.inr "around", .ref r)] = [(.inr "names", .sq true ((scn t).nm.map D.str)), (.inr "uses", .ref u), (.inr "around", .ref r)] := by
    unfold mergeD
    rw [List.foldl_cons, List.foldl_cons, List.foldl_cons, List.foldl_nil, putD_new (kvs := []) (fun e he => nomatch he)]
    rw [putD_new (kvs := [] ++ [_]) (fun e he => by simp at he; subst he; exact (by decide +kernel : (Sum.inr "names" : Key) ≠ .inr "uses"))]
    rw [putD_new (fun e he => by simp at he; rcases he with rfl | rfl; exact (by decide +kernel : (Sum.inr "names" : Key) ≠ .inr "around"); exact (by decide +kernel : (Sum.inr "uses" : Key) ≠ .inr "around"))]
    rfl
  rw [em]
  refine ea_cons (ev_var rfl (ea_nil ⟨by simp [sizeLine], _, _, p, _, rfl, rfl, mupd_same, by simp, ?_⟩))
  rw [putD_new (k := .inr "all") (fun e he => by simp at he; rcases he with rfl | rfl | rfl; exact (by decide +kernel : (Sum.inr "names" : Key) ≠ .inr "all"); exact (by decide +kernel : (Sum.inr "uses" : Key) ≠ .inr "all"); exact (by decide +kernel : (Sum.inr "around" : Key) ≠ .inr "all"))]
  rw [putD_new (k := .inr "nodes") (fun e he => by simp at he; rcases he with rfl | rfl | rfl | rfl; exact (by decide +kernel : (Sum.inr "names" : Key) ≠ .inr "nodes"); exact (by decide +kernel : (Sum.inr "uses" : Key) ≠ .inr "nodes"); exact (by decide +kernel : (Sum.inr "around" : Key) ≠ .inr "nodes"); exact (by decide +kernel : (Sum.inr "all" : Key) ≠ .inr "nodes")), mupd_mupd]
  generalize hX : D.sq true (List.map (fun e => dAr e.ab) (fx t [] [] 0 0)) = Xa
  generalize hY : D.sq true (dN (List.map En.ix (bnd (fx t [] [] 0 0)))) = Ya
  have hkv : ([(.inr "names", .sq true ((scn t).nm.map D.str)), (.inr "uses", .ref u), (.inr "around", .ref r)] ++ [(.inr "all", Xa)] ++ [(.inr "nodes", Ya)] : List (Key × D)) = [(.inr "names", .sq true ((scn t).nm.map D.str)), (.inr "uses", .ref u), (.inr "around", .ref r), (.inr "all", Xa), (.inr "nodes", Ya)] := rfl
  rw [hkv]
  generalize hK : ([(.inr "names", .sq true ((scn t).nm.map D.str)), (.inr "uses", .ref u), (.inr "around", .ref r), (.inr "all", Xa), (.inr "nodes", Ya)] : List (Key × D)) = kvs
  have vN : valD kvs (.inr "names") = some (.sq true ((scn t).nm.map D.str)) := by rw [← hK, valD_hit]
  have vU : valD kvs (.inr "uses") = some (.ref u) := by rw [← hK, valD_skip (by decide +kernel), valD_hit]
  have vA : valD kvs (.inr "around") = some (.ref r) := by rw [← hK, valD_skip (by decide +kernel), valD_skip (by decide +kernel), valD_hit]
  have snd := sound_scn ho
  have hmu : ∀ us ar : List D, mupd (mupd (mupd M u (.lst us)) r (.lst ar)) p (.dK kvs) u = some (.lst us) := fun us ar => by rw [mupd_ne hpu.symm, mupd_ne hru.symm, mupd_same]
  have hmr : ∀ us ar : List D, mupd (mupd (mupd M u (.lst us)) r (.lst ar)) p (.dK kvs) r = some (.lst ar) := fun us ar => by rw [mupd_ne hpr.symm, mupd_same]
  have su : ∀ us ar us' : List D, mupd (mupd (mupd (mupd M u (.lst us)) r (.lst ar)) p (.dK kvs)) u (.lst us') = mupd (mupd (mupd M u (.lst us')) r (.lst ar)) p (.dK kvs) := fun us ar us' => by rw [mupd_comm hpu, mupd_comm hru, mupd_mupd]
  have sr : ∀ us ar ar' : List D, mupd (mupd (mupd (mupd M u (.lst us)) r (.lst ar)) p (.dK kvs)) r (.lst ar') = mupd (mupd (mupd M u (.lst us)) r (.lst ar')) p (.dK kvs) := fun us ar ar' => by rw [mupd_comm hpr, mupd_mupd]
  refine s_seqI (fun γ m => ∃ c2 c3 c4 c7 c8 c9 c10, γ = [some (dT t), some (.sq true ((fx t [] [] 0 0).map dSpot)), c2, c3, c4, some Ya, some (.ref p), c7, c8, c9, c10] ∧ m = mupd (mupd (mupd M u (.lst ((scn t).us.map (dUse (scn t).nm)))) r (.lst ((scn t).ar.map dAr))) p (.dK kvs)) (s_for (js := [2, 3, 4]) (ei_seq (ev_var rfl ⟨_, .q, fun i γ m => ∃ c2 c3 c4 c7 c8 c9 c10, γ = [some (dT t), some (.sq true ((fx t [] [] 0 0).map dSpot)), c2, c3, c4, some Ya, some (.ref p), c7, c8, c9, c10] ∧ m = mupd (mupd (mupd M u (.lst ((usd ((fx t [] [] 0 0).take i)).map fun e => dUse (scn t).nm (lab e.tr, e.ab)))) r (.lst ((bnd ((fx t [] [] 0 0).take i)).map fun e => dAr e.ab))) p (.dK kvs), ⟨_, _, _, _, _, _, _, rfl, rfl⟩, fun _ _ _ _ _ => .q, ?_, ?_⟩))) ?_
  · rintro i x γ m hx ⟨c2, c3, c4, c7, c8, c9, c10, rfl, rfl⟩
    rw [List.getElem?_map] at hx
    cases qe : (fx t [] [] 0 0)[i]? with
    | none => rw [qe] at hx; cases hx
    | some e =>
      rw [qe] at hx
      cases hx
      have he' := List.mem_of_getElem? qe
      have hi : i < (fx t [] [] 0 0).length := (List.getElem?_eq_some_iff.mp qe).1
      have h9 := fx_anl t [] [] 0 0 e he'
      simp at h9
      have hab : e.ab.length ≤ 25 := by have := (fx_fit0 t e he').1; omega
      unfold dSpot
      obtain ⟨rest, hs⟩ := dT_shape e.tr
      rw [hs]
      walk_at "lve"
      refine s_seq (s_set ?_)
      rw [← hY]
      refine ev_within (t := t) (e := e) he' hn rfl (fun x => rfl) (fun x => rfl) (by omega) ?_
      rw [hY]
      have tk : (fx t [] [] 0 0).take (i + 1) = (fx t [] [] 0 0).take i ++ [e] := by rw [List.take_add_one, qe]; rfl
      refine s_seqI (fun γ m => ∃ c8 c9 c10, γ = [some (dT t), some (.sq true ((fx t [] [] 0 0).map dSpot)), some (.int (e.ix : Nat)), some (.sq false (.str (kind e.tr) :: .str (lab e.tr) :: rest)), some (.sq true (dN e.an)), some Ya, some (.ref p), some (.sq true (dN e.ab)), c8, c9, c10] ∧ m = mupd (mupd (mupd M u (.lst ((usd ((fx t [] [] 0 0).take i)).map fun e => dUse (scn t).nm (lab e.tr, e.ab)))) r (.lst ((bnd ((fx t [] [] 0 0).take (i + 1))).map fun e => dAr e.ab))) p (.dK kvs)) ?_ ?_
      · walk_at "lve"
        · intro hb
          have hb2 : isBind e.tr = true := by rw [← kind_bind]; exact decide_eq_true hb
          refine s_drop (ev_bm (ev_dget (ev_var rfl (ev_str ⟨p, kvs, _, .ref r, rfl, mupd_same, rfl, vA, ⟨⟨_, .inl ⟨r, rfl, hmr _ _⟩⟩, ea_cons (ev_var rfl (ea_nil ⟨r, _, rfl, hmr _ _, _, rfl, ?_, ?_⟩))⟩⟩))))
          · rw [List.length_map]
            refine Nat.lt_of_le_of_lt (List.length_filter_le _ _) ?_
            rw [List.length_take]
            simp only [sizeLine]
            omega
          · refine ⟨c8, c9, c10, rfl, ?_⟩
            rw [sr, tk, bnd_app, List.map_append]
            have : bnd [e] = [e] := by unfold bnd; simp [hb2]
            rw [this]; rfl
        · intro hb
          have hb2 : isBind e.tr = false := by rw [← kind_bind]; exact decide_eq_false hb
          walk_at "lve"
          refine ⟨c8, c9, c10, rfl, ?_⟩
          rw [tk, bnd_app]
          have : bnd [e] = [] := by unfold bnd; simp [hb2]
          rw [this, List.append_nil]
      · rintro γ m ⟨c8, c9, c10, rfl, rfl⟩
        walk_at "lve"
        · intro hb
          have hb2 : isUse e.tr = true := by rw [← kind_use]; exact decide_eq_true hb
          refine s_seq (s_set ?_)
          refine ev_lcX [10] (fun _ h => h) e.ab (fun b => D.int (b : Nat)) (fun b => decide ((scn t).nm[b]? = some (lab e.tr))) (fun b => D.int (b : Nat)) (ei_seq (ev_var rfl ⟨_, .q, rfl, szl (by omega), .q, ?_, ?_, .inl ?_⟩))
          · intro j b hj
            have hbn : b < (scn t).nm.length := by
              obtain ⟨e2, h1, _⟩ := (fx_fit0 t e he').2 j b hj
              have := (List.getElem?_eq_some_iff.mp h1).1
              simpa [scn] using this
            refine eg_name ⟨rfl, et_test (ev_op (ev_op (ev_dget (ev_var rfl (ev_str ⟨p, kvs, _, _, rfl, mupd_same, rfl, vN, ev_var rfl ⟨_, rfl, .inl ⟨_, _, .q, atI_nat b (by rw [List.getElem?_map, List.getElem?_eq_getElem hbn]; rfl), ?_⟩⟩⟩))))) ⟩
            walk_at "lve"
            refine ⟨?_, rfl, fun _ => ev_var rfl ⟨rfl, rfl⟩⟩
            rw [List.getElem?_eq_getElem hbn]
            simp
          · rw [List.length_map]; exact Nat.le_trans (List.length_filter_le _ _) (szl (by omega))
          have eh : (e.ab.filter fun b => decide ((scn t).nm[b]? = some (lab e.tr))) = hits (scn t).nm (lab e.tr, e.ab) := rfl
          rw [eh]
          refine s_drop (ev_bm (ev_dget (ev_var rfl (ev_str ⟨p, kvs, _, .ref u, rfl, mupd_same, rfl, vU, ⟨⟨_, .inl ⟨u, rfl, hmu _ _⟩⟩, ea_cons (ev_lst ?_)⟩⟩))))
          walk_at "lve"
          refine ⟨_, rfl, ⟨0, by decide, fun x hx => ?_⟩, ?_⟩
          · obtain ⟨y, _, rfl⟩ := List.mem_map.mp hx
            exact Da.int
          have fin : ∀ d : D, d = kD (mng (scn t).nm (lab e.tr, e.ab)) → mupd (mupd (mupd (mupd M u (.lst ((usd ((fx t [] [] 0 0).take i)).map fun e => dUse (scn t).nm (lab e.tr, e.ab)))) r (.lst ((bnd ((fx t [] [] 0 0).take (i + 1))).map fun e => dAr e.ab))) p (.dK kvs)) u (.lst (((usd ((fx t [] [] 0 0).take i)).map fun e => dUse (scn t).nm (lab e.tr, e.ab)) ++ [.sq true [.str (lab e.tr), .sq true (dN e.ab), d]])) = mupd (mupd (mupd M u (.lst ((usd ((fx t [] [] 0 0).take (i + 1))).map fun e => dUse (scn t).nm (lab e.tr, e.ab)))) r (.lst ((bnd ((fx t [] [] 0 0).take (i + 1))).map fun e => dAr e.ab))) p (.dK kvs) := by
            rintro d rfl
            rw [su, tk, usd_app, List.map_append]
            have : usd [e] = [e] := by unfold usd; simp [hb2]
            rw [this]; rfl
          have hlu : ((usd ((fx t [] [] 0 0).take i)).map fun e => dUse (scn t).nm (lab e.tr, e.ab)).length < sizeLine := by
            rw [List.length_map]
            refine Nat.lt_of_le_of_lt (List.length_filter_le _ _) ?_
            rw [List.length_take]
            simp only [sizeLine]
            omega
          refine g_bl ⟨fun hb3 => ?_, fun hb3 => ?_⟩
          · have hne : hits (scn t).nm (lab e.tr, e.ab) ≠ [] := by intro q; rw [q] at hb3; simp at hb3
            refine ev_op (ev_var rfl (ev_un (ev_int ⟨1, rfl, _, rfl, .inl ⟨_, _, .q, atI_last (d := kD (mng (scn t).nm (lab e.tr, e.ab))) ?_, ?_⟩⟩)))
            · rw [List.getLast?_map]
              unfold mng
              cases q : (hits (scn t).nm (lab e.tr, e.ab)).getLast? with
              | none => exact absurd (List.getLast?_eq_none_iff.mp q) hne
              | some b => rfl
            · refine ea_nil ⟨by simp [sizeLine], ea_nil ⟨u, _, rfl, hmu _ _, _, rfl, hlu, ?_⟩⟩
              exact ⟨_, _, _, _, _, _, _, rfl, fin _ rfl⟩
          · have hne : hits (scn t).nm (lab e.tr, e.ab) = [] := by
              cases q : hits (scn t).nm (lab e.tr, e.ab) with
              | nil => rfl
              | cons b bs => rw [q] at hb3; simp at hb3
            refine ev_op (ev_var rfl (ev_int ⟨1, rfl, .inl ⟨_, _, .q, atI_nat 1 rfl, ?_⟩⟩))
            refine ea_nil ⟨by simp [sizeLine], ea_nil ⟨u, _, rfl, hmu _ _, _, rfl, hlu, ?_⟩⟩
            refine ⟨_, _, _, _, _, _, _, rfl, fin _ ?_⟩
            unfold mng
            rw [hne]; rfl
        · intro hb
          have hb2 : isUse e.tr = false := by rw [← kind_use]; exact decide_eq_false hb
          walk_at "lve"
          refine ⟨_, _, _, _, c8, c9, c10, rfl, ?_⟩
          rw [tk, usd_app]
          have : usd [e] = [] := by unfold usd; simp [hb2]
          rw [this, List.append_nil]
  · rintro γ m ⟨c2, c3, c4, c7, c8, c9, c10, rfl, rfl⟩
    refine ⟨c2, c3, c4, c7, c8, c9, c10, rfl, ?_⟩
    rw [List.length_map, List.take_length]
    unfold scn
    rw [List.map_map, List.map_map]
    rfl
  · rintro γ m ⟨c2, c3, c4, c7, c8, c9, c10, rfl, rfl⟩
    have hlU : ((scn t).us.map (dUse (scn t).nm)).length ≤ sizeLine := by
      unfold scn
      rw [List.length_map, List.length_map]
      exact Nat.le_trans (List.length_filter_le _ _) hLz
    have hlA : ((scn t).ar.map dAr).length ≤ sizeLine := by
      unfold scn
      rw [List.length_map, List.length_map]
      exact Nat.le_trans (List.length_filter_le _ _) hLz
    rw [← hK]
    refine EVS.freezeK (p := p) (a := u) (kvs := [(.inr "names", .sq true ((scn t).nm.map D.str)), (.inr "uses", .ref u), (.inr "around", .ref r), (.inr "all", Xa), (.inr "nodes", Ya)]) (kvs' := [(.inr "names", .sq true ((scn t).nm.map D.str)), (.inr "uses", .sq true ((scn t).us.map (dUse (scn t).nm))), (.inr "around", .ref r), (.inr "all", Xa), (.inr "nodes", Ya)]) mupd_same (by rw [mupd_ne hpu.symm, mupd_ne hru.symm, mupd_same]) hpu hlU ?_ ?_
    · intro B ws r1 r2
      cases r2 with
      | cons a1 r2 => cases r2 with
        | cons a2 r2 =>
          have := a2.ref_inv
          subst this
          exact .cons a1 (.cons r1 r2)
    refine EVS.freezeK (p := p) (a := r) (kvs' := pg0 (scn t) Xa Ya) mupd_same (by rw [mupd_ne hpr.symm, mdel_ne hru, mupd_ne hpr.symm, mupd_same]) hpr hlA ?_ ?_
    · intro B ws r1 r2
      cases r2 with
      | cons a1 r2 => cases r2 with
        | cons a2 r2 => cases r2 with
          | cons a3 r2 =>
            have := a3.ref_inv
            subst this
            exact .cons a1 (.cons a2 (.cons r1 r2))
    have hmm : mupd (mdel (mupd (mdel (mupd (mupd (mupd M u (.lst ((scn t).us.map (dUse (scn t).nm)))) r (.lst ((scn t).ar.map dAr))) p (.dK [(.inr "names", .sq true ((scn t).nm.map D.str)), (.inr "uses", .ref u), (.inr "around", .ref r), (.inr "all", Xa), (.inr "nodes", Ya)])) u) p (.dK [(.inr "names", .sq true ((scn t).nm.map D.str)), (.inr "uses", .sq true ((scn t).us.map (dUse (scn t).nm))), (.inr "around", .ref r), (.inr "all", Xa), (.inr "nodes", Ya)])) r) p (.dK (pg0 (scn t) Xa Ya)) = mupd M p (.dK (pg0 (scn t) Xa Ya)) := by
      have hMr : M r = none := by rw [mupd_ne hru] at hr2; exact hr2
      funext x
      by_cases h1 : x = p
      · subst h1; rw [mupd_same, mupd_same]
      · rw [mupd_ne h1, mupd_ne h1]
        by_cases h2 : x = r
        · subst h2; rw [mdel_same, hMr]
        · rw [mdel_ne h2, mupd_ne h1]
          by_cases h3 : x = u
          · subst h3; rw [mdel_same, hu]
          · rw [mdel_ne h3, mupd_ne h1, mupd_ne h2, mupd_ne h3]
    rw [hmm]
    walk_at "lve"
    refine kk Xa Ya p ?_
    rw [mupd_ne hpu] at hp2
    exact hp2
end Lv

set_option Elab.async false
set_option linter.all false
set_option maxRecDepth 100000
set_option maxHeartbeats 4000000
set_option pp.maxSteps 400
set_option pp.deepTerms false
namespace Lv
open PySem PySem.Spec PyProof.Rows L2 StX
local macro_rules
  | `(tactic| walk_at "lv1") => `(tactic| with_reducible (first
    | refine s_set ?_ | refine s_ret ?_ | refine s_if ?_ | refine s_drop ?_ | refine s_next ?_ | refine s_par ?_ | refine s_par3 ?_ | refine s_subL ?_ | refine s_unl2 ?_ | refine s_tup2 ?_ | refine eg_unl2 ?_ | refine eg_unl3 ?_ | refine eg_tup2 ?_
    | refine ev_var rfl ?_ | refine ev_int ?_ | refine ev_str ?_ | refine ev_bl ?_ | refine ev_non ?_ | refine ev_ref ?_
    | refine ev_lst0 ?_ | refine ev_eqE ?_ | refine ev_neE ?_ | refine ev_op ?_ | refine ev_un ?_ | refine ev_isiLT ?_ | refine ev_isi ?_ | refine ev_cb ?_ | refine ev_chain ?_ | refine ev_andV ?_ | refine ev_orV ?_ | refine ev_notV ?_ | refine ev_if ?_ | refine ev_tup ?_ | refine ev_call ?_
    | refine et_and ?_ | refine et_or ?_ | refine et_not ?_ | refine et_test ?_ | refine et_b ?_ | refine et_yes ?_
    | refine ea_cons ?_ | refine ea_nil ?_
    | refine g_int2 ?_ | refine g_bl ?_ | refine g_int ?_ | refine g_addI ?_ | refine g_eqI ?_ | refine g_eqSt ?_ | refine g_eqSf (by decide +kernel) ?_ | refine g_eqS ?_ | refine g_eqIS ?_ | refine g_eqSI ?_ | refine g_eqNS ?_ | refine g_isn ?_
    | refine g_par ?_ | refine g_par3 ?_ | refine g_neg ?_
    | refine g_ifT ?_ | refine g_ifNT ?_ | refine g_ifNF ?_ | refine g_ifF ?_ | refine g_ifD ?_ ?_ | refine g_ifDN ?_ ?_
    | refine eg_name ?_ | refine eg_setL ?_))
local macro_rules
  | `(tactic| walk_at "lvM") => `(tactic| first | assumption | exact mupd_same)
local macro_rules
  | `(tactic| walk_at "lvW") => `(tactic| with_unfolding_all rfl)
local macro_rules
  | `(tactic| walk_at "lvA") => `(tactic| first | with_unfolding_all rfl | with_unfolding_all exact atI_nat 0 rfl | with_unfolding_all exact atI_nat 1 rfl)
local macro_rules
  | `(tactic| walk_at "lv2") => `(tactic| with_reducible (first
    | refine ⟨_, _, (by walk_at "lvW"), kb_ii, ?_⟩ | refine ⟨_, _, (by walk_at "lvW"), kb_ib, ?_⟩ | refine ⟨_, _, (by walk_at "lvW"), kb_is, ?_⟩ | refine ⟨_, _, (by walk_at "lvW"), kb_ss, ?_⟩ | refine ⟨_, _, (by walk_at "lvW"), kb_tt, ?_⟩
    | refine .inl ⟨_, _, rfl, IsS.q, ?_⟩ | refine .inl ⟨_, _, rfl, IsS.r (by walk_at "lvM"), ?_⟩ | refine .inl ⟨_, _, rfl, IsS.sc, ?_⟩
    | refine .inl ⟨_, _, IsS.q, (by walk_at "lvA"), ?_⟩ | refine .inl ⟨_, _, IsS.r (by walk_at "lvM"), (by walk_at "lvA"), ?_⟩
    | refine .inl (g_int2 (And.intro (CMul.l (by omega) (by omega)) ?_)) | refine .inl (g_int2 (And.intro (CMul.r (by omega) (by omega)) ?_))
    | refine And.intro (CDiv.mk (by omega) (by omega)) ?_ | refine And.intro (by omega) ?_ | refine And.intro (Nat.le_of_ble_eq_true (by walk_at "lvW")) ?_
    | refine .inl ⟨_, _, rfl, ?_⟩
    | refine .inl ⟨_, rfl, ?_⟩ | refine .inr ⟨_, rfl, ?_⟩
    | refine ⟨_, _, _, _, rfl, (by walk_at "lvM"), rfl, (by walk_at "lvW"), ?_⟩
    | refine ⟨_, _, rfl, IsL.q, ?_⟩
    | refine ⟨_, rfl, .inl ⟨_, _, IsS.q, (by walk_at "lvA"), ?_⟩⟩))
local macro_rules
  | `(tactic| walk_at "lvm") => `(tactic| repeat' (first | walk_at "lv1" | (with_reducible refine s_seq ?_) | walk_at "lv2" | dsimp only))
local macro_rules
  | `(tactic| walk_at "lve") => `(tactic| repeat' (first | walk_at "lv1" | (with_reducible refine ev_lst ?_) | walk_at "lv2" | dsimp only))
local macro_rules
  | `(tactic| walk_at "lv") => `(tactic| repeat' (first | walk_at "lv1" | (with_reducible refine ev_lst ?_) | (with_reducible refine s_seq ?_) | walk_at "lv2" | dsimp only))
local macro_rules
  | `(tactic| walk_at "lve0") => `(tactic| repeat' (first
    | (with_reducible first | refine ev_var rfl ?_ | refine ev_int ?_ | refine ev_str ?_ | refine et_test ?_ | refine ev_eqE ?_ | refine ev_op ?_ | refine g_bl ?_ | refine g_eqI ?_ | refine g_eqSt ?_ | refine g_eqSf (by decide +kernel) ?_ | refine g_eqS ?_ | refine g_int ?_ | refine g_ifT ?_ | refine g_ifF ?_ | refine g_ifD ?_ ?_) | walk_at "lv2" | dsimp only))
local macro_rules
  | `(tactic| walk_at "lvx") => `(tactic| repeat' (first | (refine fun hx => absurd hx ?_; (with_reducible fail_if_success assumption); simp; done) | (refine fun _ => ?_; walk_at "lv")))
def W_is_tree (n : Nat) : Fw := fun ds M P => ∃ t, ds = [dT t] ∧ OkT t ∧ nodes t ≤ n ∧ P (.bl true) M
def W_are_trees (n : Nat) : Fw := fun ds M P => ∃ ts, ds = [.sq false (dTs ts)] ∧ OkTs ts ∧ nodesL ts ≤ n ∧ nodesL ts ≤ 100 ∧ P (.bl true) M
def P_is_tree : List Str := ["value"]
def N_are_trees : List Str := ["value", "one"]
def P_are_trees : List Str := ["value"]
theorem sc_are_trees : FnScope N_are_trees P_are_trees (defScope s_are_trees) := ⟨rfl, rfl, rfl, by decide +kernel, rfl, by decide +kernel, by decide +kernel⟩
theorem h_are_trees {z : Cz} {mg : Str → Option Value} {base : Heap} {CF CT : Addr} (G : Gf z mg CF CT) (Dd : Df z mg "are_trees" s_are_trees) {n : Nat} (H_is_tree : Has z mg base "is_tree" P_is_tree (1 + 2 * n) (W_is_tree n)) : Has z mg base "are_trees" P_are_trees (1 + 2 * n + 1) (W_are_trees  n) := by
  refine okDf Dd sc_are_trees (fun _ _ _ _ _ _ us hl => match us, hl with | [_], _ => rfl) (fun ds M P hw => ?_) (fun f cdv A outer s H E hr ds M P hw => ?_)
  · obtain ⟨ts, rfl, _⟩ := hw
    rfl
  obtain ⟨ts, rfl, ho, hn, hn2, k⟩ := hw
  refine ⟨_, (pss_one (ps_ret (pe_and (pe_callB (zc_isi z) rfl G.isinstance boot_isinstance (pa_cons (pv 0) (pa_cons (px_ty G.tuple boot_tuple rfl) pa_nil))) (pe_one (pe_callB (zc_all z) rfl G.all boot_all (pa_cons (pe_lc (own := [("one", 1)]) rfl sc_are_trees.nd (zi_seq z (pv 0)) (blkOk_by (N := N_are_trees) (sc := defScope s_are_trees) (by decide +kernel)) (fun _ _ _ _ _ => (pg_name (i := 1) sc_are_trees.nd rfl (.inl rfl))) (fun _ _ _ _ _ => pts_nil) (fun _ _ _ _ _ => (px_call H_is_tree (hr.mono (by omega)) rfl (pa_cons (pv 1) pa_nil)))) pa_nil)))))), ?_⟩
  have hz := nodesL_len ts
  walk_at "lve"
  rw [dTs_map]
  refine ev_lcA [1] (fun _ h => h) ts dT (fun _ => .bl true) (ei_seq (ev_var rfl ⟨_, .q, rfl, szl (by omega), .q, ?_, ?_, .inl ?_⟩))
  · intro i t ht
    walk_at "lve"
    refine ⟨rfl, ?_⟩
    walk_at "lve"
    refine ⟨t, rfl, OkTs_mem ho t (List.mem_of_getElem? ht), ?_, rfl, rfl⟩
    have := nodesL_mem (List.mem_of_getElem? ht)
    omega
  · rw [List.length_map]; exact szl (by omega)
  · walk_at "lve"
    refine ⟨_, ts.map fun _ => true, rfl, .inl (by rw [List.map_map]; rfl), ?_⟩
    have : (ts.map fun _ => true).all id = true := by rw [List.all_map, List.all_eq_true]; intro x _; rfl
    rw [this]
    exact k
def N_is_tree : List Str := ["value"]
theorem sc_is_tree : FnScope N_is_tree P_is_tree (defScope s_is_tree) := ⟨rfl, rfl, rfl, by decide +kernel, rfl, by decide +kernel, by decide +kernel⟩
theorem h_is_tree {z : Cz} {mg : Str → Option Value} {base : Heap} {CF CT : Addr} (G : Gf z mg CF CT) (Dd : Df z mg "is_tree" s_is_tree) {n : Nat} (hn100 : n < 100) (H_is_name : Has z mg base "is_name" P_is_name 1 W_is_name) (H_is_tree : Has z mg base "is_tree" P_is_tree (1 + 2 * n) (W_is_tree n)) (H_are_trees : Has z mg base "are_trees" P_are_trees (1 + 2 * n + 1) (W_are_trees n)) : Has z mg base "is_tree" P_is_tree (2 + 2 * n + 1) (W_is_tree  (n + 1)) := by
  refine okDf Dd sc_is_tree (fun _ _ _ _ _ _ us hl => match us, hl with | [_], _ => rfl) (fun ds M P hw => ?_) (fun f cdv A outer s H E hr ds M P hw => ?_)
  · obtain ⟨t, rfl, _⟩ := hw
    rfl
  obtain ⟨t, rfl, ho, hn, k⟩ := hw
  refine ⟨_, (pss_cons (ps_if (PW.pt (pw_or (pt_not (pt_val (pe_callB (zc_isi z) rfl G.isinstance boot_isinstance (pa_cons (pv 0) (pa_cons (px_ty G.tuple boot_tuple rfl) pa_nil))))) (pw_or (pt_not (pt_chain ox_le ox_le pe_int (pe_callB (zc_len z) rfl G.len boot_len (pa_cons (pv 0) pa_nil)) pe_int)) (pw_or1 (pt_not (pt_val (px_call H_is_name (hr.mono (by omega)) rfl (pa_cons (zx_ix z (pv 0) pe_int) pa_nil)))))))) (pss_one (ps_ret pe_bl)) pss_nil) (pss_cons (ps_if (pt_not (pt_val (pe_callB (zc_isi z) rfl G.isinstance boot_isinstance (pa_cons (zx_ix z (pv 0) pe_int) (pa_cons (px_ty G.str boot_str2 rfl) pa_nil))))) (pss_one (ps_ret pe_bl)) pss_nil) (pss_cons (ps_if (pt_cmpR (zo_eq z hr) (zx_ix z (pv 0) pe_int) pe_str (nomark _)) (pss_one (ps_ret (pe_cmpR (zo_eq z hr) (pe_callB (zc_len z) rfl G.len boot_len (pa_cons (pv 0) pa_nil)) pe_int (nomark _)))) pss_nil) (pss_cons (ps_if (pt_cmpR (zo_eq z hr) (zx_ix z (pv 0) pe_int) pe_str (nomark _)) (pss_one (ps_ret (pe_and (pe_cmpR (zo_eq z hr) (pe_callB (zc_len z) rfl G.len boot_len (pa_cons (pv 0) pa_nil)) pe_int (nomark _)) (pe_one (px_call H_are_trees (hr.mono (by omega)) rfl (pa_cons (zx_ix z (pv 0) pe_int) pa_nil)))))) pss_nil) (pss_one (ps_ret (pe_and (pe_cmpR (zo_eq z hr) (zx_ix z (pv 0) pe_int) pe_str (nomark _)) (pe_and (pe_cmpR (zo_eq z hr) (pe_callB (zc_len z) rfl G.len boot_len (pa_cons (pv 0) pa_nil)) pe_int (nomark _)) (pe_and (px_call H_are_trees (hr.mono (by omega)) rfl (pa_cons (zx_ix z (pv 0) pe_int) pa_nil)) (pe_one (px_call H_is_tree (hr.mono (by omega)) rfl (pa_cons (zx_ix z (pv 0) pe_int) pa_nil)))))))))))), ?_⟩
  cases t with
  | use m =>
    rw [dT]
    rw [OkT] at ho
    walk_at "lv"
    walk_at "lvx"
    refine ⟨m, rfl, ho, ?_⟩
    walk_at "lv"
    walk_at "lvx"
    exact k
  | join l ts =>
    rw [dT]
    rw [OkT] at ho
    rw [nodes] at hn
    walk_at "lv"
    walk_at "lvx"
    refine ⟨l, rfl, ho.1, ?_⟩
    walk_at "lv"
    walk_at "lvx"
    refine ⟨ts, rfl, ho.2, by omega, by omega, ?_⟩
    exact k
  | bind l ts b =>
    rw [dT]
    rw [OkT] at ho
    rw [nodes] at hn
    walk_at "lv"
    walk_at "lvx"
    refine ⟨l, rfl, ho.1, ?_⟩
    walk_at "lv"
    walk_at "lvx"
    refine ⟨ts, rfl, ho.2.1, by omega, by omega, ?_⟩
    walk_at "lv"
    walk_at "lvx"
    exact ⟨b, rfl, ho.2.2, by have := nodesL_len ts; omega, k⟩
theorem tree_all {z : Cz} {mg : Str → Option Value} {base : Heap} {CF CT : Addr} (G : Gf z mg CF CT) (Dt : Df z mg "is_tree" s_is_tree) (Da : Df z mg "are_trees" s_are_trees)
    (H_is_name : Has z mg base "is_name" P_is_name 1 W_is_name) : ∀ n, n ≤ 100 → Has z mg base "is_tree" P_is_tree (1 + 2 * n) (W_is_tree n)
  | 0, _ => by
    refine Has.mono (okDf (k := 0) Dt sc_is_tree (fun _ _ _ _ _ _ us hl => match us, hl with | [_], _ => rfl) (fun ds M P hw => ?_) (fun f cdv A outer s H E hr ds M P hw => ?_)) (by omega)
    · obtain ⟨t, rfl, _⟩ := hw
      rfl
    · obtain ⟨t, rfl, _, h, _⟩ := hw
      have := nodes_pos t
      omega
  | n + 1, hn => by
    have ih := tree_all G Dt Da H_is_name n (by omega)
    exact Has.mono (h_is_tree G Dt (by omega) H_is_name ih (h_are_trees G Da ih)) (by omega)
def W_parts_of : Fw := fun ds M P => ∃ t, ds = [dT t] ∧ nodes t ≤ 25 ∧ P (.sq true (dTs (below t))) M
def N_parts_of : List Str := ["tree"]
def P_parts_of : List Str := ["tree"]
theorem sc_parts_of : FnScope N_parts_of P_parts_of (defScope s_parts_of) := ⟨rfl, rfl, rfl, by decide +kernel, rfl, by decide +kernel, by decide +kernel⟩
theorem h_parts_of {z : Cz} {mg : Str → Option Value} {base : Heap} {CF CT : Addr} (G : Gf z mg CF CT) (Dd : Df z mg "parts_of" s_parts_of)  : Has z mg base "parts_of" P_parts_of (0 + 1) (W_parts_of) := by
  refine okDf Dd sc_parts_of (fun _ _ _ _ _ _ us hl => match us, hl with | [_], _ => rfl) (fun ds M P hw => ?_) (fun f cdv A outer s H E hr ds M P hw => ?_)
  · obtain ⟨t, rfl, _⟩ := hw
    rfl
  obtain ⟨t, rfl, hn, k⟩ := hw
  refine ⟨_, (pss_cons (ps_if (pt_cmpR (zo_eq z hr) (zx_ix z (pv 0) pe_int) pe_str (nomark _)) (pss_one (ps_ret (pe_lst pa_nil))) pss_nil) (pss_one (ps_ret (pe_ifExp (pt_cmpR (zo_eq z hr) (zx_ix z (pv 0) pe_int) pe_str (nomark _)) (pe_callTy (zc_list z) rfl G.list boot_list (pa_cons (zx_ix z (pv 0) pe_int) pa_nil)) (pe_lst (za_star z (zx_ix z (pv 0) pe_int) (pa_cons (zx_ix z (pv 0) pe_int) pa_nil))))))), ?_⟩
  cases t with
  | use n =>
    rw [dT]
    rw [below, dTs] at k
    refine s_seq (s_if ?_)
    walk_at "lve0"
    exact s_ret (ev_lst (ea_nil ⟨by simp, k⟩))
  | join l ts =>
    rw [dT]
    rw [below] at k
    rw [nodes] at hn
    have hz := nodesL_len ts
    walk_at "lv"
    exact ⟨by rw [dTs_len]; exact szl (by omega), .inl k⟩
  | bind l ts b =>
    rw [dT]
    rw [below] at k
    rw [nodes] at hn
    have hz := nodesL_len ts
    walk_at "lv"
    refine ea_star ?_
    walk_at "lv"
    refine ⟨_, _, rfl, ?_⟩
    walk_at "lv"
    refine ⟨?_, ?_⟩
    · rw [List.length_append, dTs_len]; exact szl (by simp; omega)
    · rw [dTs_append, dTs, dTs] at k; exact k
def W_deep_of (n : Nat) : Fw := fun ds M P => ∃ t, ds = [dT t] ∧ nodes t ≤ n ∧ nodes t ≤ 25 ∧ ∀ r : Int, 0 ≤ r → r ≤ nodes t → P (.int r) M
def P_deep_of : List Str := ["tree"]
theorem nodes_below (t : Tr) : nodesL (below t) + 1 ≤ nodes t := by
  cases t with
  | use n => rw [below, nodesL, nodes]; omega
  | join l ts => rw [below, nodes]; omega
  | bind l ts b => rw [below, nodesL_append, nodesL, nodesL, nodes]; omega
def N_deep_of : List Str := ["tree", "part"]
theorem sc_deep_of : FnScope N_deep_of P_deep_of (defScope s_deep_of) := ⟨rfl, rfl, rfl, by decide +kernel, rfl, by decide +kernel, by decide +kernel⟩
theorem h_deep_of {z : Cz} {mg : Str → Option Value} {base : Heap} {CF CT : Addr} (G : Gf z mg CF CT) (Dd : Df z mg "deep_of" s_deep_of) {n : Nat} (H_parts_of : Has z mg base "parts_of" P_parts_of 1 W_parts_of) (H_deep_of : Has z mg base "deep_of" P_deep_of (1 + n) (W_deep_of n)) : Has z mg base "deep_of" P_deep_of (1 + n + 1) (W_deep_of  (n + 1)) := by
  refine okDf Dd sc_deep_of (fun _ _ _ _ _ _ us hl => match us, hl with | [_], _ => rfl) (fun ds M P hw => ?_) (fun f cdv A outer s H E hr ds M P hw => ?_)
  · obtain ⟨t, rfl, _⟩ := hw
    rfl
  obtain ⟨t, rfl, hn, hn2, k⟩ := hw
  refine ⟨_, (pss_one (ps_ret (pe_op ox_add pe_int (pe_callB (zc_max z) rfl G.max boot_max (pa_cons (pe_lst (pa_cons pe_int (za_star z (pe_lc (own := [("part", 1)]) rfl sc_deep_of.nd (zi_seq z (px_call H_parts_of (hr.mono (by omega)) rfl (pa_cons (pv 0) pa_nil))) (blkOk_by (N := N_deep_of) (sc := defScope s_deep_of) (by decide +kernel)) (fun _ _ _ _ _ => (pg_name (i := 1) sc_deep_of.nd rfl (.inl rfl))) (fun _ _ _ _ _ => pts_nil) (fun _ _ _ _ _ => (pe_callTy (cx_int) rfl G.int boot_int (pa_cons (px_call H_deep_of (hr.mono (by omega)) rfl (pa_cons (pv 1) pa_nil)) pa_nil)))) pa_nil))) pa_nil))))), ?_⟩
  have hb := nodes_below t
  have hbl := nodesL_len (below t)
  walk_at "lv"
  refine ea_star ?_
  refine ev_lc [1] (fun _ h => h) (ei_seq ?_)
  walk_at "lv"
  refine ⟨t, rfl, hn2, _, .q, by rw [dTs_len]; exact szl (by omega), fun i acc m => ∃ is : List Int, acc = is.map D.int ∧ is.length = i ∧ (∀ r ∈ is, 0 ≤ r ∧ r + 1 ≤ nodes t) ∧ m = M, ⟨[], rfl, rfl, (fun r h => nomatch h), rfl⟩, fun i acc m hi ⟨is, e, e2, _, e3⟩ => ⟨.q, by rw [e, List.length_map, e2]; exact Nat.le_refl _⟩, ?_, ?_⟩
  · rintro i x acc m hx ⟨is, rfl, h1, h2, rfl⟩
    rw [dTs_map, List.getElem?_map] at hx
    cases q : (below t)[i]? with
    | none => rw [q] at hx; cases hx
    | some u =>
      rw [q] at hx
      cases hx
      have hu := nodesL_mem (List.mem_of_getElem? q)
      walk_at "lv"
      refine ⟨u, rfl, by omega, by omega, fun r hr1 hr2 => ?_⟩
      walk_at "lv"
      refine ⟨is ++ [r], by simp, by simp [h1], fun r' hr' => ?_, rfl⟩
      rcases List.mem_append.mp hr' with h | h
      · exact h2 r' h
      · simp at h; subst h; exact ⟨hr1, by omega⟩
  · rintro acc m ⟨is, rfl, h1, h2, rfl⟩
    rw [dTs_len] at h1
    refine ⟨by rw [List.length_map, h1]; exact szl (by omega), .inl ?_⟩
    refine ⟨_, _, rfl, ?_⟩
    walk_at "lv"
    refine ⟨?_, ?_⟩
    · simp only [List.append_nil, List.length_cons, List.length_map, h1]; exact szl (by omega)
    walk_at "lv"
    refine .inr ⟨_, 0 :: is, rfl, .inl (by simp), by simp, fun mx hm1 hm2 => ?_⟩
    walk_at "lv"
    rcases List.mem_cons.mp hm1 with h | h
    · subst h; exact k _ (by omega) (by have := nodes_pos t; omega)
    · obtain ⟨h3, h4⟩ := h2 mx h
      exact k _ (by omega) (by omega)
theorem deep_all {z : Cz} {mg : Str → Option Value} {base : Heap} {CF CT : Addr} (G : Gf z mg CF CT) (Dt : Df z mg "deep_of" s_deep_of) (H_parts_of : Has z mg base "parts_of" P_parts_of 1 W_parts_of) : ∀ n, Has z mg base "deep_of" P_deep_of (1 + n) (W_deep_of n)
  | 0 => by
    refine Has.mono (okDf (k := 0) Dt sc_deep_of (fun _ _ _ _ _ _ us hl => match us, hl with | [_], _ => rfl) (fun ds M P hw => ?_) (fun f cdv A outer s H E hr ds M P hw => ?_)) (by omega)
    · obtain ⟨t, rfl, _⟩ := hw
      rfl
    · obtain ⟨t, rfl, h, _⟩ := hw
      have := nodes_pos t
      omega
  | n + 1 => Has.mono (h_deep_of G Dt H_parts_of (deep_all G Dt H_parts_of n)) (by omega)
end Lv

set_option Elab.async false
set_option linter.all false
set_option maxRecDepth 100000
set_option maxHeartbeats 4000000
set_option pp.maxSteps 400
set_option pp.deepTerms false
namespace Lv
open PySem PySem.Spec PyProof.Rows L2 StX
local macro_rules
  | `(tactic| walk_at "lv1") => `(tactic| with_reducible (first
    | refine s_set ?_ | refine s_ret ?_ | refine s_if ?_ | refine s_drop ?_ | refine s_next ?_ | refine s_par ?_ | refine s_par3 ?_ | refine s_subL ?_ | refine s_unl2 ?_ | refine s_tup2 ?_ | refine eg_unl2 ?_ | refine eg_unl3 ?_ | refine eg_tup2 ?_
    | refine ev_var rfl ?_ | refine ev_int ?_ | refine ev_str ?_ | refine ev_bl ?_ | refine ev_non ?_ | refine ev_ref ?_
    | refine ev_lst0 ?_ | refine ev_eqE ?_ | refine ev_neE ?_ | refine ev_op ?_ | refine ev_un ?_ | refine ev_isiLT ?_ | refine ev_isi ?_ | refine ev_cb ?_ | refine ev_chain ?_ | refine ev_andV ?_ | refine ev_orV ?_ | refine ev_notV ?_ | refine ev_if ?_ | refine ev_tup ?_ | refine ev_call ?_
    | refine et_and ?_ | refine et_or ?_ | refine et_not ?_ | refine et_test ?_ | refine et_b ?_ | refine et_yes ?_
    | refine ea_cons ?_ | refine ea_nil ?_
    | refine g_int2 ?_ | refine g_bl ?_ | refine g_int ?_ | refine g_addI ?_ | refine g_eqI ?_ | refine g_eqSt ?_ | refine g_eqSf (by decide +kernel) ?_ | refine g_eqS ?_ | refine g_eqIS ?_ | refine g_eqSI ?_ | refine g_eqNS ?_ | refine g_isn ?_
    | refine g_par ?_ | refine g_par3 ?_ | refine g_neg ?_
    | refine g_ifT ?_ | refine g_ifNT ?_ | refine g_ifNF ?_ | refine g_ifF ?_ | refine g_ifD ?_ ?_ | refine g_ifDN ?_ ?_
    | refine eg_name ?_ | refine eg_setL ?_))
local macro_rules
  | `(tactic| walk_at "lvM") => `(tactic| first | assumption | exact mupd_same)
local macro_rules
  | `(tactic| walk_at "lvW") => `(tactic| with_unfolding_all rfl)
local macro_rules
  | `(tactic| walk_at "lvA") => `(tactic| first | with_unfolding_all rfl | with_unfolding_all exact atI_nat 0 rfl | with_unfolding_all exact atI_nat 1 rfl)
local macro_rules
  | `(tactic| walk_at "lv2") => `(tactic| with_reducible (first
    | refine ⟨_, _, (by walk_at "lvW"), kb_ii, ?_⟩ | refine ⟨_, _, (by walk_at "lvW"), kb_ib, ?_⟩ | refine ⟨_, _, (by walk_at "lvW"), kb_is, ?_⟩ | refine ⟨_, _, (by walk_at "lvW"), kb_ss, ?_⟩ | refine ⟨_, _, (by walk_at "lvW"), kb_tt, ?_⟩
    | refine .inl ⟨_, _, rfl, IsS.q, ?_⟩ | refine .inl ⟨_, _, rfl, IsS.r (by walk_at "lvM"), ?_⟩ | refine .inl ⟨_, _, rfl, IsS.sc, ?_⟩
    | refine .inl ⟨_, _, IsS.q, (by walk_at "lvA"), ?_⟩ | refine .inl ⟨_, _, IsS.r (by walk_at "lvM"), (by walk_at "lvA"), ?_⟩
    | refine .inl (g_int2 (And.intro (CMul.l (by omega) (by omega)) ?_)) | refine .inl (g_int2 (And.intro (CMul.r (by omega) (by omega)) ?_))
    | refine And.intro (CDiv.mk (by omega) (by omega)) ?_ | refine And.intro (by omega) ?_ | refine And.intro (Nat.le_of_ble_eq_true (by walk_at "lvW")) ?_
    | refine .inl ⟨_, _, rfl, ?_⟩
    | refine .inl ⟨_, rfl, ?_⟩ | refine .inr ⟨_, rfl, ?_⟩
    | refine ⟨_, _, _, _, rfl, (by walk_at "lvM"), rfl, (by walk_at "lvW"), ?_⟩
    | refine ⟨_, _, rfl, IsL.q, ?_⟩
    | refine ⟨_, rfl, .inl ⟨_, _, IsS.q, (by walk_at "lvA"), ?_⟩⟩))
local macro_rules
  | `(tactic| walk_at "lvm") => `(tactic| repeat' (first | walk_at "lv1" | (with_reducible refine s_seq ?_) | walk_at "lv2" | dsimp only))
local macro_rules
  | `(tactic| walk_at "lve") => `(tactic| repeat' (first | walk_at "lv1" | (with_reducible refine ev_lst ?_) | walk_at "lv2" | dsimp only))
local macro_rules
  | `(tactic| walk_at "lv") => `(tactic| repeat' (first | walk_at "lv1" | (with_reducible refine ev_lst ?_) | (with_reducible refine s_seq ?_) | walk_at "lv2" | dsimp only))
local macro_rules
  | `(tactic| walk_at "lve0") => `(tactic| repeat' (first
    | (with_reducible first | refine ev_var rfl ?_ | refine ev_int ?_ | refine ev_str ?_ | refine et_test ?_ | refine ev_eqE ?_ | refine ev_op ?_ | refine g_bl ?_ | refine g_eqI ?_ | refine g_eqSt ?_ | refine g_eqSf (by decide +kernel) ?_ | refine g_eqS ?_ | refine g_int ?_ | refine g_ifT ?_ | refine g_ifF ?_ | refine g_ifD ?_ ?_) | walk_at "lv2" | dsimp only))
local macro_rules
  | `(tactic| walk_at "lvx") => `(tactic| repeat' (first | (refine fun hx => absurd hx ?_; (with_reducible fail_if_success assumption); simp; done) | (refine fun _ => ?_; walk_at "lv")))
def FM (M0 : Mem) (a b c d : Addr) (la lb lc ld : List D) : Mem := fun y => if y = a then some (.lst la) else if y = b then some (.lst lb) else if y = c then some (.lst lc) else if y = d then some (.lst ld) else M0 y
structure Dis (x a b c d : Addr) : Prop where
  ab : a ≠ b
  ac : a ≠ c
  ad : a ≠ d
  bc : b ≠ c
  bd : b ≠ d
  cd : c ≠ d
  xa : x ≠ a
  xb : x ≠ b
  xc : x ≠ c
  xd : x ≠ d
section
variable {M0 : Mem} {x a b c d : Addr} {la lb lc ld l : List D} (h : Dis x a b c d)
include h
theorem FM_a : FM M0 a b c d la lb lc ld a = some (.lst la) := by unfold FM; rw [if_pos rfl]
theorem FM_b : FM M0 a b c d la lb lc ld b = some (.lst lb) := by unfold FM; rw [if_neg h.ab.symm, if_pos rfl]
theorem FM_c : FM M0 a b c d la lb lc ld c = some (.lst lc) := by unfold FM; rw [if_neg h.ac.symm, if_neg h.bc.symm, if_pos rfl]
theorem FM_d : FM M0 a b c d la lb lc ld d = some (.lst ld) := by unfold FM; rw [if_neg h.ad.symm, if_neg h.bd.symm, if_neg h.cd.symm, if_pos rfl]
theorem FM_x : FM M0 a b c d la lb lc ld x = M0 x := by unfold FM; rw [if_neg h.xa, if_neg h.xb, if_neg h.xc, if_neg h.xd]
theorem FM_ua : mupd (FM M0 a b c d la lb lc ld) a (.lst l) = FM M0 a b c d l lb lc ld := by
  funext y; unfold mupd FM; by_cases h1 : y = a <;> simp [h1]
theorem FM_ub : mupd (FM M0 a b c d la lb lc ld) b (.lst l) = FM M0 a b c d la l lc ld := by
  funext y; unfold mupd FM; by_cases h1 : y = b
  · subst h1; simp [h.ab.symm]
  · simp [h1]
theorem FM_uc : mupd (FM M0 a b c d la lb lc ld) c (.lst l) = FM M0 a b c d la lb l ld := by
  funext y; unfold mupd FM; by_cases h1 : y = c
  · subst h1; simp [h.ac.symm, h.bc.symm]
  · simp [h1]
theorem FM_ud : mupd (FM M0 a b c d la lb lc ld) d (.lst l) = FM M0 a b c d la lb lc l := by
  funext y; unfold mupd FM; by_cases h1 : y = d
  · subst h1; simp [h.ad.symm, h.bd.symm, h.cd.symm]
  · simp [h1]
end
def dA (L : List En) : List D := L.map fun e => dT e.tr
def dTupN (A : List Nat) : D := .sq false (dN A)
def dB (L : List En) : List D := L.map fun e => dTupN e.ab
def dC (L : List En) : List D := dN ((bnd L).map En.ix)
def dD (L : List En) : List D := dN ((usd L).map En.ix)
def FL (M0 : Mem) (a b c d : Addr) (L : List En) : Mem := FM M0 a b c d (dA L) (dB L) (dC L) (dD L)
def flF (A B C Dd : D) : List (Str × D) := [("nodes", A), ("around", B), ("binder_nodes", C), ("use_nodes", Dd)]
theorem s_app {z : Cz} {Γ : Gam} {M : Mem} {te : TE} {E : PN} {i : Nat} {f : Str} {x a C : Addr} {fs : List (Str × D)} {ds : List D} (hi : Γ[i]? = some (some (.ref x))) (hx : M x = some (.ins C fs)) (hc : Cls z.K C) (hn : NoAttr z.K C f) (hl : fs.lookup f = some (.ref a)) (ha : M a = some (.lst ds)) (hs : ds.length < sizeLine)
    (h : EV z te Γ M fun v M1 => M1 = M ∧ E.nx Γ (mupd M a (.lst (ds ++ [v])))) : EVS z (tDrop (tBM z.K "list" rAppU (tFld z.K (tVar i) f) (tCons te tNil))) Γ M E :=
  s_drop (ev_bm (ev_fld (ev_var hi ⟨C, fs, .ref a, .inl ⟨x, rfl, hx⟩, hc, hn, hl, ⟨_, .inl ⟨a, rfl, ha⟩⟩, ea_cons (h.imp fun v M1 ⟨e, k⟩ => ea_nil ⟨a, ds, rfl, by rw [e]; exact ha, v, rfl, hs, by rw [e]; exact k⟩)⟩)))
/-- len(self.f) -/
theorem ev_lenF {z : Cz} {Γ : Gam} {M : Mem} {P : D → Mem → Prop} {i : Nat} {f : Str} {x a C : Addr} {fs : List (Str × D)} {ds : List D} (hi : Γ[i]? = some (some (.ref x))) (hx : M x = some (.ins C fs)) (hc : Cls z.K C) (hn : NoAttr z.K C f) (hl : fs.lookup f = some (.ref a)) (ha : M a = some (.lst ds)) (k : P (.int ds.length) M) :
    EV z (tCB (rLenU z.K) (tCons (tFld z.K (tVar i) f) tNil)) Γ M P :=
  ev_cb (ea_cons (ev_fld (ev_var hi ⟨C, fs, .ref a, .inl ⟨x, rfl, hx⟩, hc, hn, hl, ea_nil (.inl ⟨_, _, rfl, .r ha, k⟩)⟩)))
def W_Flat_add (CF : Addr) (n : Nat) : Fw := fun ds M P => ∃ (x a b c d : Addr) (t : Tr) (An A : List Nat) (L : List En) (M0 : Mem), ds = [.ref x, dT t, dTupN A] ∧ nodes t ≤ n ∧ L.length + nodes t ≤ 100 ∧ nodes t + A.length ≤ 100 ∧ Dis x a b c d ∧ M0 x = some (.ins CF (flF (.ref a) (.ref b) (.ref c) (.ref d))) ∧ M = FL M0 a b c d L ∧ P .non (FL M0 a b c d (L ++ fx t An A L.length (bnd L).length))
def P_Flat_add : List Str := ["self", "tree", "around"]
theorem bnd_one {e : En} (h : isBind e.tr = true) : bnd [e] = [e] := by unfold bnd; simp [h]
theorem bnd_none {e : En} (h : isBind e.tr = false) : bnd [e] = [] := by unfold bnd; simp [h]
theorem usd_one {e : En} (h : isUse e.tr = true) : usd [e] = [e] := by unfold usd; simp [h]
theorem usd_none {e : En} (h : isUse e.tr = false) : usd [e] = [] := by unfold usd; simp [h]
theorem dA_app (L K : List En) : dA (L ++ K) = dA L ++ dA K := List.map_append ..
theorem dB_app (L K : List En) : dB (L ++ K) = dB L ++ dB K := List.map_append ..
theorem dC_app (L K : List En) : dC (L ++ K) = dC L ++ dC K := by unfold dC dN; rw [bnd_app, List.map_append, List.map_append]
theorem dD_app (L K : List En) : dD (L ++ K) = dD L ++ dD K := by unfold dD dN; rw [usd_app, List.map_append, List.map_append]
theorem dA_len (L : List En) : (dA L).length = L.length := List.length_map ..
theorem dB_len (L : List En) : (dB L).length = L.length := List.length_map ..
theorem dC_len (L : List En) : (dC L).length = (bnd L).length := by unfold dC dN; rw [List.length_map, List.length_map]
theorem bnd_le (L : List En) : (bnd L).length ≤ L.length := List.length_filter_le _ _
theorem dD_le (L : List En) : (dD L).length ≤ L.length := by unfold dD dN usd; rw [List.length_map, List.length_map]; exact List.length_filter_le _ _
theorem fxL_bnd (An A : List Nat) : ∀ (ts : List Tr) (f k : Nat), (bnd (fxL ts An A f k)).length = binsL ts
  | [], f, k => by rw [fxL, binsL]; rfl
  | t :: ts, f, k => by rw [fxL, binsL, bnd_app, List.length_append, fx_bnd, fxL_bnd An A ts]
theorem s_parts {z : Cz} {CF : Addr} {E : PN} {x a b c d : Addr} {M0 : Mem} {L1 : List En} {l kd : Str} {rest : List D} {c4 : Option D} {Γ : Gam} {c3 : Option D} (hd : Dis x a b c d) (hx : M0 x = some (.ins CF (flF (.ref a) (.ref b) (.ref c) (.ref d)))) (ts : List Tr) (An A : List Nat) (n : Nat)
    (hΓ : Γ = [some (.ref x), some (.sq false (.str kd :: .str l :: .sq false (dTs ts) :: rest)), some (dTupN A), c3, c4]) (h1 : L1.length + nodesL ts ≤ 100) (h2 : nodesL ts + A.length ≤ 100) (h3 : nodesL ts ≤ n)
    (h : ∀ c3 : Option D, E.nx [some (.ref x), some (.sq false (.str kd :: .str l :: .sq false (dTs ts) :: rest)), some (dTupN A), c3, c4] (FL M0 a b c d (L1 ++ fxL ts An A L1.length (bnd L1).length))) :
    EVS z (tFor (iSeqU z.K (tOp (rIxU z.K) (tVar 1) (tC (.int 2)))) (gName 3) (tDrop (tMeth CF "add" (spD z (W_Flat_add CF n)) [] E0 (tVar 0) (tCons (tVar 3) (tCons (tVar 2) tNil))))) Γ (FL M0 a b c d L1) E := by
  subst hΓ
  have hx' : ∀ L, FL M0 a b c d L x = some (.ins CF (flF (.ref a) (.ref b) (.ref c) (.ref d))) := fun L => by unfold FL; rw [FM_x hd]; exact hx
  refine s_for (js := [3]) (ei_seq (ev_op (ev_var rfl (ev_int ⟨2, rfl, .inl ⟨_, _, .q, atI_nat 2 rfl, ?_⟩⟩))))
  refine ⟨_, .q, fun i γ m => ∃ c3 : Option D, γ = [some (.ref x), some (.sq false (.str kd :: .str l :: .sq false (dTs ts) :: rest)), some (dTupN A), c3, c4] ∧ m = FL M0 a b c d (L1 ++ fxL (ts.take i) An A L1.length (bnd L1).length), ⟨c3, rfl, by rw [List.take_zero, fxL, List.append_nil]⟩, fun _ _ _ _ _ => .q, ?_, ?_⟩
  · rintro i y γ m hy ⟨c3, rfl, rfl⟩
    rw [dTs_map, List.getElem?_map] at hy
    cases q : ts[i]? with
    | none => rw [q] at hy; cases hy
    | some u =>
      rw [q] at hy
      cases hy
      have hu := nodesL_mem (List.mem_of_getElem? q)
      have ht := nodesL_append (ts.take i) (ts.drop i)
      rw [List.take_append_drop] at ht
      have hd2 : nodes u ≤ nodesL (ts.drop i) := by
        refine nodesL_mem ?_
        have : (ts.drop i)[0]? = some u := by rw [List.getElem?_drop]; exact q
        exact List.mem_of_getElem? this
      refine eg_name (s_drop (ev_meth (ev_var rfl ⟨_, .inl ⟨x, rfl, hx' _⟩, rfl, ?_⟩)))
      refine ea_cons (ev_var rfl (ea_cons (ev_var rfl (ea_nil ?_))))
      have hfl : (fxL (ts.take i) An A L1.length (bnd L1).length).length = nodesL (ts.take i) := fxL_len _ _ _ _ _
      have hbl : (bnd (fxL (ts.take i) An A L1.length (bnd L1).length)).length = binsL (ts.take i) := fxL_bnd _ _ _ _ _
      refine ⟨x, a, b, c, d, u, An, A, _, M0, rfl, by omega, ?_, by omega, hd, hx, rfl, some (dT u), rfl, ?_⟩
      · rw [List.length_append, hfl]; omega
      · rw [List.length_append, hfl, bnd_app, List.length_append, hbl, List.append_assoc, List.take_add_one, q, fxL_app]
        show FL M0 a b c d _ = FL M0 a b c d (L1 ++ (_ ++ fxL [u] _ _ _ _))
        rw [fxL, fxL, List.append_nil]
  · rintro γ m ⟨c3, rfl, rfl⟩
    rw [dTs_len, List.take_length]
    exact h c3
def N_Flat_add : List Str := ["self", "tree", "around", "part", "number"]
theorem sc_Flat_add : FnScope N_Flat_add P_Flat_add (defScope s_Flat_add) := ⟨rfl, rfl, rfl, by decide +kernel, rfl, by decide +kernel, by decide +kernel⟩
theorem h_Flat_add {z : Cz} {mg : Str → Option Value} {base : Heap} {CF CT : Addr} (G : Gf z mg CF CT) (Dd : DfM z CF "add" "Flat.add" s_Flat_add) {n : Nat} (M_add : HasM z mg base CF "add" P_Flat_add (1 + n) (W_Flat_add CF n)) : HasM z mg base CF "add" P_Flat_add (1 + n + 1) (W_Flat_add  CF (n + 1)) := by
  refine okDfM Dd sc_Flat_add (fun _ _ _ _ _ _ us hl => match us, hl with | [_, _, _], _ => rfl) (fun ds M P hw => ?_) (fun f cdv A outer s H E hr ds M P hw => ?_)
  · obtain ⟨x, a, b, c, d, t, An, A, L, M0, rfl, _⟩ := hw
    rfl
  obtain ⟨x, a, b, c, d, t, An, A, L, M0, rfl, hn, hL, hA, hd, hx, rfl, k⟩ := hw
  refine ⟨_, (pss_cons (ps_expr (zx_bm z PySem.F.plainAttrs_list PySem.F.slot_list_append PySem.F.type_list_append xm_append (zx_fld z (pv 0)) (pa_cons (pv 1) pa_nil))) (pss_cons (ps_expr (zx_bm z PySem.F.plainAttrs_list PySem.F.slot_list_append PySem.F.type_list_append xm_append (zx_fld z (pv 0)) (pa_cons (pv 2) pa_nil))) (pss_one (ps_if (pt_cmpR (zo_eq z hr) (zx_ix z (pv 1) pe_int) pe_str (nomark _)) (pss_one (ps_expr (zx_bm z PySem.F.plainAttrs_list PySem.F.slot_list_append PySem.F.type_list_append xm_append (zx_fld z (pv 0)) (pa_cons (pe_op ox_sub (pe_callB (zc_len z) rfl G.len boot_len (pa_cons (zx_fld z (pv 0)) pa_nil)) pe_int) pa_nil)))) (pss_one (ps_if (pt_cmpR (zo_eq z hr) (zx_ix z (pv 1) pe_int) pe_str (nomark _)) (pss_one (ps_for PassesOwn.never rfl (zi_seq z (zx_ix z (pv 1) pe_int)) (pg_name (i := 3) sc_Flat_add.nd rfl (.inl rfl)) (pss_one (ps_expr (px_meth G.cF M_add (hr.mono (by omega)) (pv 0) (pa_cons (pv 3) (pa_cons (pv 2) pa_nil))))))) (pss_cons (ps_set (i := 4) sc_Flat_add.nd rfl (.inl rfl) (pe_callB (zc_len z) rfl G.len boot_len (pa_cons (zx_fld z (pv 0)) pa_nil))) (pss_cons (ps_expr (zx_bm z PySem.F.plainAttrs_list PySem.F.slot_list_append PySem.F.type_list_append xm_append (zx_fld z (pv 0)) (pa_cons (pe_op ox_sub (pe_callB (zc_len z) rfl G.len boot_len (pa_cons (zx_fld z (pv 0)) pa_nil)) pe_int) pa_nil))) (pss_cons (ps_for PassesOwn.never rfl (zi_seq z (zx_ix z (pv 1) pe_int)) (pg_name (i := 3) sc_Flat_add.nd rfl (.inl rfl)) (pss_one (ps_expr (px_meth G.cF M_add (hr.mono (by omega)) (pv 0) (pa_cons (pv 3) (pa_cons (pv 2) pa_nil)))))) (pss_one (ps_expr (px_meth G.cF M_add (hr.mono (by omega)) (pv 0) (pa_cons (zx_ix z (pv 1) pe_int) (pa_cons (pe_tup (za_star z (pv 2) (pa_cons (pv 4) pa_nil))) pa_nil)))))))))))))), ?_⟩
  have hp := nodes_pos t
  have hb := bnd_le L
  have hdl := dD_le L
  have hx' : ∀ la lb lc ld, FM M0 a b c d la lb lc ld x = some (.ins CF (flF (.ref a) (.ref b) (.ref c) (.ref d))) := fun la lb lc ld => by rw [FM_x hd]; exact hx
  unfold FL
  refine s_seq (s_app (f := "nodes") (a := a) rfl (hx' _ _ _ _) G.cF (G.nF "nodes" (by simp)) rfl (FM_a hd) (by rw [dA_len]; simp only [sizeLine]; omega) (ev_var rfl ⟨rfl, ?_⟩))
  rw [FM_ua hd]
  refine s_seq (s_app (f := "around") (a := b) rfl (hx' _ _ _ _) G.cF (G.nF "around" (by simp)) rfl (FM_b hd) (by rw [dB_len]; simp only [sizeLine]; omega) (ev_var rfl ⟨rfl, ?_⟩))
  rw [FM_ub hd]
  cases t with
  | use m =>
    rw [dT]
    refine s_if ?_
    walk_at "lve0"
    refine s_app (f := "use_nodes") (a := d) rfl (hx' _ _ _ _) G.cF (G.nF "use_nodes" (by simp)) rfl (FM_d hd) (Nat.lt_of_le_of_lt hdl (by simp only [sizeLine]; omega)) ?_
    refine ev_op (ev_lenF (f := "nodes") (a := a) rfl (hx' _ _ _ _) G.cF (G.nF "nodes" (by simp)) rfl (FM_a hd) ?_)
    walk_at "lv"
    refine ⟨rfl, ?_⟩
    rw [FM_ud hd]
    rw [fx] at k
    unfold FL at k
    rw [dA_app, dB_app, dC_app, dD_app] at k
    have e1 : dA [(⟨L.length, (bnd L).length, .use m, An, A⟩ : En)] = [.sq false [.str "use", .str m]] := by unfold dA; rw [List.map_cons, dT]; rfl
    have e2 : dC [(⟨L.length, (bnd L).length, .use m, An, A⟩ : En)] = [] := by unfold dC; rw [bnd_none rfl]; rfl
    have e3 : dD [(⟨L.length, (bnd L).length, .use m, An, A⟩ : En)] = [.int (L.length : Nat)] := by unfold dD; rw [usd_one rfl]; rfl
    rw [e1, e2, e3, List.append_nil] at k
    have e4 : (((dA L ++ [D.sq false [D.str "use", D.str m]]).length : Nat) : Int) - 1 = (L.length : Nat) := by rw [List.length_append, dA_len]; simp
    rw [e4]
    exact k
  | join l ts =>
    rw [dT]
    rw [fx] at k
    rw [nodes] at hn hL hA
    walk_at "lv"
    have eL : FM M0 a b c d (dA L ++ [D.sq false [D.str "join", D.str l, D.sq false (dTs ts)]]) (dB L ++ [dTupN A]) (dC L) (dD L) = FL M0 a b c d (L ++ [⟨L.length, (bnd L).length, .join l ts, An, A⟩]) := by
      unfold FL
      rw [dA_app, dB_app, dC_app, dD_app]
      have e1 : dA [(⟨L.length, (bnd L).length, .join l ts, An, A⟩ : En)] = [.sq false [.str "join", .str l, .sq false (dTs ts)]] := by unfold dA; rw [List.map_cons, dT]; rfl
      have e2 : dC [(⟨L.length, (bnd L).length, .join l ts, An, A⟩ : En)] = [] := by unfold dC; rw [bnd_none rfl]; rfl
      have e3 : dD [(⟨L.length, (bnd L).length, .join l ts, An, A⟩ : En)] = [] := by unfold dD; rw [usd_none rfl]; rfl
      rw [e1, e2, e3, List.append_nil, List.append_nil]
      rfl
    rw [eL]
    refine s_parts hd hx ts An A n rfl (by simp; omega) (by omega) (by omega) fun c3 => ?_
    rw [List.append_assoc, bnd_app, bnd_none rfl, List.append_nil, List.length_append]
    exact k
  | bind l ts tb =>
    rw [dT]
    rw [fx] at k
    rw [nodes] at hn hL hA
    have hpb := nodes_pos tb
    walk_at "lv"
    refine ev_fld (ev_var rfl ⟨CF, _, .ref c, .inl ⟨x, rfl, hx' _ _ _ _⟩, G.cF, G.nF "binder_nodes" (by simp), rfl, ea_nil (.inl ⟨_, _, rfl, .r (FM_c hd), ?_⟩)⟩)
    refine s_seq (s_app (f := "binder_nodes") (a := c) rfl (hx' _ _ _ _) G.cF (G.nF "binder_nodes" (by simp)) rfl (FM_c hd) (by rw [dC_len]; simp only [sizeLine]; omega) ?_)
    refine ev_op (ev_lenF (f := "nodes") (a := a) rfl (hx' _ _ _ _) G.cF (G.nF "nodes" (by simp)) rfl (FM_a hd) ?_)
    walk_at "lv"
    refine ⟨rfl, ?_⟩
    rw [FM_uc hd]
    have eL : FM M0 a b c d (dA L ++ [D.sq false [D.str "bind", D.str l, D.sq false (dTs ts), dT tb]]) (dB L ++ [dTupN A]) (dC L ++ [.int (((dA L ++ [D.sq false [D.str "bind", D.str l, D.sq false (dTs ts), dT tb]]).length : Nat) - 1)]) (dD L) = FL M0 a b c d (L ++ [⟨L.length, (bnd L).length, .bind l ts tb, An, A⟩]) := by
      unfold FL
      rw [dA_app, dB_app, dC_app, dD_app]
      have e1 : dA [(⟨L.length, (bnd L).length, .bind l ts tb, An, A⟩ : En)] = [.sq false [.str "bind", .str l, .sq false (dTs ts), dT tb]] := by unfold dA; rw [List.map_cons, dT]; rfl
      have e2 : dC [(⟨L.length, (bnd L).length, .bind l ts tb, An, A⟩ : En)] = [.int (L.length : Nat)] := by unfold dC; rw [bnd_one rfl]; rfl
      have e3 : dD [(⟨L.length, (bnd L).length, .bind l ts tb, An, A⟩ : En)] = [] := by unfold dD; rw [usd_none rfl]; rfl
      have e4 : (((dA L ++ [D.sq false [D.str "bind", D.str l, D.sq false (dTs ts), dT tb]]).length : Nat) : Int) - 1 = (L.length : Nat) := by rw [List.length_append, dA_len]; simp
      rw [e1, e2, e3, e4, List.append_nil]
      rfl
    rw [eL]
    have en : (dC L).length = (bnd L).length := dC_len L
    rw [en]
    refine s_seq (s_parts hd hx ts An A n rfl (by simp; omega) (by omega) (by omega) fun c3 => ?_)
    have eb : bnd (L ++ [⟨L.length, (bnd L).length, .bind l ts tb, An, A⟩]) = bnd L ++ [⟨L.length, (bnd L).length, .bind l ts tb, An, A⟩] := by rw [bnd_app, bnd_one rfl]
    have l1 : (L ++ [(⟨L.length, (bnd L).length, .bind l ts tb, An, A⟩ : En)]).length = L.length + 1 := by simp
    have l2 : (bnd L ++ [(⟨L.length, (bnd L).length, .bind l ts tb, An, A⟩ : En)]).length = (bnd L).length + 1 := by simp
    rw [eb, l1, l2]
    have hx2 : ∀ L' : List En, FL M0 a b c d L' x = some (.ins CF (flF (.ref a) (.ref b) (.ref c) (.ref d))) := fun L' => hx' _ _ _ _
    refine s_drop (ev_meth (ev_var rfl ⟨_, .inl ⟨x, rfl, hx2 _⟩, rfl, ?_⟩))
    walk_at "lv"
    refine ea_star ?_
    walk_at "lv"
    refine ⟨_, _, rfl, ?_⟩
    walk_at "lv"
    refine ⟨by unfold dN; simp only [List.length_append, List.length_map, List.length_cons, List.length_nil]; exact szl (by omega), ?_⟩
    walk_at "lv"
    have hfl : (fxL ts An A (L.length + 1) ((bnd L).length + 1)).length = nodesL ts := fxL_len An A ts _ _
    have hbl : (bnd (fxL ts An A (L.length + 1) ((bnd L).length + 1))).length = binsL ts := fxL_bnd An A ts _ _
    refine ⟨x, a, b, c, d, tb, An ++ [L.length], A ++ [(bnd L).length], _, M0, ?_, by omega, ?_, by simp; omega, hd, hx, rfl, ?_⟩
    · unfold dTupN dN
      rw [List.map_append]; rfl
    · simp only [List.length_append, List.length_cons, List.length_nil, hfl]; omega
    · have q1 : (L ++ [(⟨L.length, (bnd L).length, .bind l ts tb, An, A⟩ : En)] ++ fxL ts An A (L.length + 1) ((bnd L).length + 1)).length = L.length + 1 + nodesL ts := by simp only [List.length_append, List.length_cons, List.length_nil, hfl]
      have q2 : (bnd (L ++ [(⟨L.length, (bnd L).length, .bind l ts tb, An, A⟩ : En)] ++ fxL ts An A (L.length + 1) ((bnd L).length + 1))).length = (bnd L).length + 1 + binsL ts := by rw [bnd_app, eb, List.length_append, l2, hbl]
      rw [q1, q2, List.append_assoc, List.append_assoc]
      exact k
theorem add_all {z : Cz} {mg : Str → Option Value} {base : Heap} {CF CT : Addr} (G : Gf z mg CF CT) (Dm : DfM z CF "add" "Flat.add" s_Flat_add) : ∀ n, HasM z mg base CF "add" P_Flat_add (1 + n) (W_Flat_add CF n)
  | 0 => by
    refine HasM.mono (okDfM (k := 0) Dm sc_Flat_add (fun _ _ _ _ _ _ us hl => match us, hl with | [_, _, _], _ => rfl) (fun ds M P hw => ?_) (fun f cdv A outer s H E hr ds M P hw => ?_)) (by omega)
    · obtain ⟨x, a, b, c, d, t, An, A, L, M0, rfl, _⟩ := hw
      rfl
    · obtain ⟨x, a, b, c, d, t, An, A, L, M0, rfl, h, _⟩ := hw
      have := nodes_pos t
      omega
  | n + 1 => HasM.mono (h_Flat_add G Dm (add_all G Dm n)) (by omega)
def W_Flat_init (CF : Addr) : Fw := fun ds M P => ∃ (x : Addr) (t : Tr), ds = [.ref x, dT t] ∧ nodes t ≤ 25 ∧ M x = some (.ins CF []) ∧ P .non (mupd M x (.ins CF (flF (.sq true (dA (fx t [] [] 0 0))) (.sq true (dB (fx t [] [] 0 0))) (.sq true (dC (fx t [] [] 0 0))) (.sq true (dD (fx t [] [] 0 0))))))
theorem s_fld0 {z : Cz} {Γ : Gam} {M : Mem} {E : PN} {i : Nat} {f : Str} {x C : Addr} {fs : List (Str × D)} (hi : Γ[i]? = some (some (.ref x))) (hx : M x = some (.ins C fs)) (hc : Cls z.K C) (hn : NoAttr z.K C f) (hl : fs.length < 1000)
    (h : ∀ a, M a = none → E.nx Γ (mupd (mupd M a (.lst [])) x (.ins C (putFD f (.ref a) fs)))) : EVS z (sFld z.K (tVar i) (tLst tNil) f) Γ M E :=
  s_fld (ev_lst0 fun a ha => ev_var hi ⟨x, C, fs, rfl, by rw [mupd_ne (mne hx ha)]; exact hx, hc, hn, hl, h a ha⟩)
theorem putFD_len (f : Str) (v : D) : ∀ fs : List (Str × D), (putFD f v fs).length ≤ fs.length + 1
  | [] => Nat.le_refl _
  | (g, x) :: r => by
    unfold putFD
    split
    · simp
    · have := putFD_len f v r
      simp only [List.length_cons]
      omega
theorem putFD_new {f : Str} {v : D} : ∀ {fs : List (Str × D)}, (∀ e ∈ fs, e.1 ≠ f) → putFD f v fs = fs ++ [(f, v)]
  | [], _ => rfl
  | (g, x) :: r, h => by
    unfold putFD
    rw [if_neg (h _ List.mem_cons_self), putFD_new fun e he => h e (List.mem_cons_of_mem _ he)]
    rfl
theorem flP (a b c d : D) : putFD "use_nodes" d (putFD "binder_nodes" c (putFD "around" b (putFD "nodes" a []))) = flF a b c d := by
  rw [putFD_new (fs := []) (fun e he => nomatch he)]
  rw [putFD_new (f := "around") (fun e he => by simp at he; subst he; exact (by decide +kernel : ("nodes" : Str) ≠ "around"))]
  rw [putFD_new (f := "binder_nodes") (fun e he => by simp at he; rcases he with rfl | rfl; exact (by decide +kernel : ("nodes" : Str) ≠ "binder_nodes"); exact (by decide +kernel : ("around" : Str) ≠ "binder_nodes"))]
  rw [putFD_new (f := "use_nodes") (fun e he => by simp at he; rcases he with rfl | rfl | rfl; exact (by decide +kernel : ("nodes" : Str) ≠ "use_nodes"); exact (by decide +kernel : ("around" : Str) ≠ "use_nodes"); exact (by decide +kernel : ("binder_nodes" : Str) ≠ "use_nodes"))]
  rfl
def N_Flat_init : List Str := ["self", "tree"]
def P_Flat_init : List Str := ["self", "tree"]
theorem sc_Flat_init : FnScope N_Flat_init P_Flat_init (defScope s_Flat_init) := ⟨rfl, rfl, rfl, by decide +kernel, rfl, by decide +kernel, by decide +kernel⟩
theorem h_Flat_init {z : Cz} {mg : Str → Option Value} {base : Heap} {CF CT : Addr} (G : Gf z mg CF CT) (Dd : DfI z CF "Flat.__init__" s_Flat_init) (M_add : HasM z mg base CF "add" P_Flat_add (1 + 25) (W_Flat_add CF 25)) : HasI z mg base CF P_Flat_init (1 + 25 + 1) (W_Flat_init  CF) := by
  refine okDfI Dd sc_Flat_init (fun _ _ _ _ _ _ us hl => match us, hl with | [_, _], _ => rfl) (fun ds M P hw => ?_) (fun f cdv A outer s H E hr ds M P hw => ?_)
  · obtain ⟨x, t, rfl, _⟩ := hw
    rfl
  obtain ⟨x, t, rfl, hn, hx, k⟩ := hw
  refine ⟨_, (pss_cons (zs_fld z (pv 0) (pe_lst pa_nil)) (pss_cons (zs_fld z (pv 0) (pe_lst pa_nil)) (pss_cons (zs_fld z (pv 0) (pe_lst pa_nil)) (pss_cons (zs_fld z (pv 0) (pe_lst pa_nil)) (pss_one (ps_expr (px_meth G.cF M_add (hr.mono (by omega)) (pv 0) (pa_cons (pv 1) (pa_cons (pe_tup pa_nil) pa_nil))))))))), ?_⟩
  refine EVS.view ?_
  refine s_seq (s_fld0 rfl hx G.cF (G.nF "nodes" (by simp)) (by simp) fun a ha => ?_)
  have xa : x ≠ a := mne hx ha
  refine s_seq (s_fld0 rfl mupd_same G.cF (G.nF "around" (by simp)) (Nat.lt_of_le_of_lt (putFD_len _ _ _) (by simp)) fun b hb => ?_)
  have xb : x ≠ b := fun e => by rw [← e, mupd_same] at hb; cases hb
  rw [mupd_ne xb.symm] at hb
  have ba : b ≠ a := fun e => by rw [e, mupd_same] at hb; cases hb
  rw [mupd_comm xb, mupd_mupd]
  refine s_seq (s_fld0 rfl mupd_same G.cF (G.nF "binder_nodes" (by simp)) (Nat.lt_of_le_of_lt (Nat.le_trans (putFD_len _ _ _) (Nat.succ_le_succ (putFD_len _ _ _))) (by simp)) fun c hc => ?_)
  have xc : x ≠ c := fun e => by rw [← e, mupd_same] at hc; cases hc
  rw [mupd_ne xc.symm] at hc
  have cb : c ≠ b := fun e => by rw [e, mupd_same] at hc; cases hc
  rw [mupd_ne cb] at hc
  have ca : c ≠ a := fun e => by rw [e, mupd_same] at hc; cases hc
  rw [mupd_comm xc, mupd_mupd]
  refine s_seq (s_fld0 rfl mupd_same G.cF (G.nF "use_nodes" (by simp)) (Nat.lt_of_le_of_lt (Nat.le_trans (putFD_len _ _ _) (Nat.succ_le_succ (Nat.le_trans (putFD_len _ _ _) (Nat.succ_le_succ (putFD_len _ _ _))))) (by simp)) fun d hd => ?_)
  have xd : x ≠ d := fun e => by rw [← e, mupd_same] at hd; cases hd
  rw [mupd_ne xd.symm] at hd
  have dc : d ≠ c := fun e => by rw [e, mupd_same] at hd; cases hd
  rw [mupd_ne dc] at hd
  have db : d ≠ b := fun e => by rw [e, mupd_same] at hd; cases hd
  rw [mupd_ne db] at hd
  have da : d ≠ a := fun e => by rw [e, mupd_same] at hd; cases hd
  rw [mupd_ne da] at hd
  have hc' := hc
  rw [mupd_ne ca] at hc'
  rw [mupd_ne ba] at hb
  rw [mupd_comm xd, mupd_mupd, flP]
  have hds : Dis x a b c d := ⟨ba.symm, ca.symm, da.symm, cb.symm, db.symm, dc.symm, xa, xb, xc, xd⟩
  have hM0 : (mupd M x (.ins CF (flF (.ref a) (.ref b) (.ref c) (.ref d)))) x = some (.ins CF (flF (.ref a) (.ref b) (.ref c) (.ref d))) := mupd_same
  have eM : mupd (mupd (mupd (mupd (mupd M a (.lst [])) b (.lst [])) c (.lst [])) d (.lst [])) x (.ins CF (flF (.ref a) (.ref b) (.ref c) (.ref d))) = FL (mupd M x (.ins CF (flF (.ref a) (.ref b) (.ref c) (.ref d)))) a b c d [] := by
    funext y
    unfold FL FM
    by_cases h1 : y = x
    · subst h1; rw [mupd_same, if_neg xa, if_neg xb, if_neg xc, if_neg xd, mupd_same]
    · rw [mupd_ne h1]
      by_cases h2 : y = d
      · subst h2; rw [mupd_same, if_neg da, if_neg db, if_neg dc, if_pos rfl]; rfl
      · rw [mupd_ne h2]
        by_cases h3 : y = c
        · subst h3; rw [mupd_same, if_neg ca, if_neg cb, if_pos rfl]; rfl
        · rw [mupd_ne h3]
          by_cases h4 : y = b
          · subst h4; rw [mupd_same, if_neg ba, if_pos rfl]; rfl
          · rw [mupd_ne h4]
            by_cases h5 : y = a
            · subst h5; rw [mupd_same, if_pos rfl]; rfl
            · rw [mupd_ne h5, if_neg h5, if_neg h4, if_neg h3, if_neg h2, mupd_ne h1]
  rw [eM]
  have hxx : ∀ L, FL (mupd M x (.ins CF (flF (.ref a) (.ref b) (.ref c) (.ref d)))) a b c d L x = some (.ins CF (flF (.ref a) (.ref b) (.ref c) (.ref d))) := fun L => by unfold FL; rw [FM_x hds]; exact hM0
  refine s_drop (ev_meth (ev_var rfl ⟨_, .inl ⟨x, rfl, hxx _⟩, rfl, ?_⟩))
  refine ea_cons (ev_var rfl (ea_cons (ev_tup (ea_nil ⟨by simp, ea_nil ?_⟩))))
  refine ⟨x, a, b, c, d, t, [], [], [], _, rfl, hn, by simp; omega, by simp; omega, hds, hM0, rfl, ?_⟩
  rw [List.nil_append]
  have hL : (fx t [] [] 0 0).length ≤ 25 := by rw [fx_len]; exact hn
  have e0 : ([] : List En).length = 0 := rfl
  have e1 : (bnd []).length = 0 := rfl
  rw [e0, e1]
  generalize hLL : fx t [] [] 0 0 = L at k hL ⊢
  have hCl : (dC L).length ≤ 25 := by rw [dC_len]; exact Nat.le_trans (bnd_le L) hL
  have hDl : (dD L).length ≤ 25 := Nat.le_trans (dD_le L) hL
  unfold FL
  generalize hM1 : mupd M x (.ins CF (flF (.ref a) (.ref b) (.ref c) (.ref d))) = M1 at hM0
  refine ⟨_, (((Frz.inF (p := x) (a := a) (fs' := flF (.sq true (dA L)) (.ref b) (.ref c) (.ref d)) (by rw [FM_x hds]; exact hM0) (FM_a hds) xa (by rw [dA_len]; exact szl (by omega)) ?_).trans (Frz.inF (p := x) (a := b) (ds := dB L) (fs' := flF (.sq true (dA L)) (.sq true (dB L)) (.ref c) (.ref d)) mupd_same ?_ xb (by rw [dB_len]; exact szl (by omega)) ?_)).trans
    (Frz.inF (p := x) (a := c) (ds := dC L) (fs' := flF (.sq true (dA L)) (.sq true (dB L)) (.sq true (dC L)) (.ref d)) mupd_same ?_ xc (szl (by omega)) ?_)).trans (Frz.inF (p := x) (a := d) (ds := dD L) (fs' := flF (.sq true (dA L)) (.sq true (dB L)) (.sq true (dC L)) (.sq true (dD L))) mupd_same ?_ xd (szl (by omega)) ?_), ?_⟩
  · intro B ws r1 r2
    cases r2 with
    | cons a1 r2 =>
      have := a1.ref_inv
      subst this
      exact .cons r1 r2
  · rw [mupd_ne xb.symm, mdel_ne ba, FM_b hds]
  · intro B ws r1 r2
    cases r2 with
    | cons a1 r2 => cases r2 with
      | cons a2 r2 =>
        have := a2.ref_inv
        subst this
        exact .cons a1 (.cons r1 r2)
  · rw [mupd_ne xc.symm, mdel_ne cb, mupd_ne xc.symm, mdel_ne ca, FM_c hds]
  · intro B ws r1 r2
    cases r2 with
    | cons a1 r2 => cases r2 with
      | cons a2 r2 => cases r2 with
        | cons a3 r2 =>
          have := a3.ref_inv
          subst this
          exact .cons a1 (.cons a2 (.cons r1 r2))
  · rw [mupd_ne xd.symm, mdel_ne dc, mupd_ne xd.symm, mdel_ne db, mupd_ne xd.symm, mdel_ne da, FM_d hds]
  · intro B ws r1 r2
    cases r2 with
    | cons a1 r2 => cases r2 with
      | cons a2 r2 => cases r2 with
        | cons a3 r2 => cases r2 with
          | cons a4 r2 =>
            have := a4.ref_inv
            subst this
            exact .cons a1 (.cons a2 (.cons a3 (.cons r1 r2)))
  · have : mupd (mdel (mupd (mdel (mupd (mdel (mupd (mdel (FM M1 a b c d (dA L) (dB L) (dC L) (dD L)) a) x (.ins CF (flF (.sq true (dA L)) (.ref b) (.ref c) (.ref d)))) b) x (.ins CF (flF (.sq true (dA L)) (.sq true (dB L)) (.ref c) (.ref d)))) c) x (.ins CF (flF (.sq true (dA L)) (.sq true (dB L)) (.sq true (dC L)) (.ref d)))) d) x (.ins CF (flF (.sq true (dA L)) (.sq true (dB L)) (.sq true (dC L)) (.sq true (dD L)))) = mupd M x (.ins CF (flF (.sq true (dA L)) (.sq true (dB L)) (.sq true (dC L)) (.sq true (dD L)))) := by
      funext y
      by_cases h1 : y = x
      · subst h1; rw [mupd_same, mupd_same]
      · rw [mupd_ne h1, mupd_ne h1]
        by_cases h2 : y = d
        · subst h2; rw [mdel_same, hd]
        · rw [mdel_ne h2, mupd_ne h1]
          by_cases h3 : y = c
          · subst h3; rw [mdel_same, hc']
          · rw [mdel_ne h3, mupd_ne h1]
            by_cases h4 : y = b
            · subst h4; rw [mdel_same, hb]
            · rw [mdel_ne h4, mupd_ne h1]
              by_cases h5 : y = a
              · subst h5; rw [mdel_same, ha]
              · rw [mdel_ne h5]
                unfold FM
                rw [if_neg h5, if_neg h4, if_neg h3, if_neg h2, ← hM1, mupd_ne h1]
    rw [this]
    exact k
end Lv

set_option Elab.async false
set_option linter.all false
set_option maxRecDepth 100000
set_option maxHeartbeats 4000000
set_option pp.maxSteps 400
set_option pp.deepTerms false
namespace Lv
open PySem PySem.Spec PyProof.Rows L2 StX
local macro_rules
  | `(tactic| walk_at "lv1") => `(tactic| with_reducible (first
    | refine s_set ?_ | refine s_ret ?_ | refine s_if ?_ | refine s_drop ?_ | refine s_next ?_ | refine s_par ?_ | refine s_par3 ?_ | refine s_subL ?_ | refine s_unl2 ?_ | refine s_tup2 ?_ | refine eg_unl2 ?_ | refine eg_unl3 ?_ | refine eg_tup2 ?_
    | refine ev_var rfl ?_ | refine ev_int ?_ | refine ev_str ?_ | refine ev_bl ?_ | refine ev_non ?_ | refine ev_ref ?_
    | refine ev_lst0 ?_ | refine ev_eqE ?_ | refine ev_neE ?_ | refine ev_op ?_ | refine ev_un ?_ | refine ev_isiLT ?_ | refine ev_isi ?_ | refine ev_cb ?_ | refine ev_chain ?_ | refine ev_andV ?_ | refine ev_orV ?_ | refine ev_notV ?_ | refine ev_if ?_ | refine ev_tup ?_ | refine ev_call ?_
    | refine et_and ?_ | refine et_or ?_ | refine et_not ?_ | refine et_test ?_ | refine et_b ?_ | refine et_yes ?_
    | refine ea_cons ?_ | refine ea_nil ?_
    | refine g_int2 ?_ | refine g_bl ?_ | refine g_int ?_ | refine g_addI ?_ | refine g_eqI ?_ | refine g_eqSt ?_ | refine g_eqSf (by decide +kernel) ?_ | refine g_eqS ?_ | refine g_eqIS ?_ | refine g_eqSI ?_ | refine g_eqNS ?_ | refine g_isn ?_
    | refine g_par ?_ | refine g_par3 ?_ | refine g_neg ?_
    | refine g_ifT ?_ | refine g_ifNT ?_ | refine g_ifNF ?_ | refine g_ifF ?_ | refine g_ifD ?_ ?_ | refine g_ifDN ?_ ?_
    | refine eg_name ?_ | refine eg_setL ?_))
local macro_rules
  | `(tactic| walk_at "lvM") => `(tactic| first | assumption | exact mupd_same)
local macro_rules
  | `(tactic| walk_at "lvW") => `(tactic| with_unfolding_all rfl)
local macro_rules
  | `(tactic| walk_at "lvA") => `(tactic| first | with_unfolding_all rfl | with_unfolding_all exact atI_nat 0 rfl | with_unfolding_all exact atI_nat 1 rfl)
local macro_rules
  | `(tactic| walk_at "lv2") => `(tactic| with_reducible (first
    | refine ⟨_, _, (by walk_at "lvW"), kb_ii, ?_⟩ | refine ⟨_, _, (by walk_at "lvW"), kb_ib, ?_⟩ | refine ⟨_, _, (by walk_at "lvW"), kb_is, ?_⟩ | refine ⟨_, _, (by walk_at "lvW"), kb_ss, ?_⟩ | refine ⟨_, _, (by walk_at "lvW"), kb_tt, ?_⟩
    | refine .inl ⟨_, _, rfl, IsS.q, ?_⟩ | refine .inl ⟨_, _, rfl, IsS.r (by walk_at "lvM"), ?_⟩ | refine .inl ⟨_, _, rfl, IsS.sc, ?_⟩
    | refine .inl ⟨_, _, IsS.q, (by walk_at "lvA"), ?_⟩ | refine .inl ⟨_, _, IsS.r (by walk_at "lvM"), (by walk_at "lvA"), ?_⟩
    | refine .inl (g_int2 (And.intro (CMul.l (by omega) (by omega)) ?_)) | refine .inl (g_int2 (And.intro (CMul.r (by omega) (by omega)) ?_))
    | refine And.intro (CDiv.mk (by omega) (by omega)) ?_ | refine And.intro (by omega) ?_ | refine And.intro (Nat.le_of_ble_eq_true (by walk_at "lvW")) ?_
    | refine .inl ⟨_, _, rfl, ?_⟩
    | refine .inl ⟨_, rfl, ?_⟩ | refine .inr ⟨_, rfl, ?_⟩
    | refine ⟨_, _, _, _, rfl, (by walk_at "lvM"), rfl, (by walk_at "lvW"), ?_⟩
    | refine ⟨_, _, rfl, IsL.q, ?_⟩
    | refine ⟨_, rfl, .inl ⟨_, _, IsS.q, (by walk_at "lvA"), ?_⟩⟩))
local macro_rules
  | `(tactic| walk_at "lvm") => `(tactic| repeat' (first | walk_at "lv1" | (with_reducible refine s_seq ?_) | walk_at "lv2" | dsimp only))
local macro_rules
  | `(tactic| walk_at "lve") => `(tactic| repeat' (first | walk_at "lv1" | (with_reducible refine ev_lst ?_) | walk_at "lv2" | dsimp only))
local macro_rules
  | `(tactic| walk_at "lv") => `(tactic| repeat' (first | walk_at "lv1" | (with_reducible refine ev_lst ?_) | (with_reducible refine s_seq ?_) | walk_at "lv2" | dsimp only))
local macro_rules
  | `(tactic| walk_at "lve0") => `(tactic| repeat' (first
    | (with_reducible first | refine ev_var rfl ?_ | refine ev_int ?_ | refine ev_str ?_ | refine et_test ?_ | refine ev_eqE ?_ | refine ev_op ?_ | refine g_bl ?_ | refine g_eqI ?_ | refine g_eqSt ?_ | refine g_eqSf (by decide +kernel) ?_ | refine g_eqS ?_ | refine g_int ?_ | refine g_ifT ?_ | refine g_ifF ?_ | refine g_ifD ?_ ?_) | walk_at "lv2" | dsimp only))
local macro_rules
  | `(tactic| walk_at "lvx") => `(tactic| repeat' (first | (refine fun hx => absurd hx ?_; (with_reducible fail_if_success assumption); simp; done) | (refine fun _ => ?_; walk_at "lv")))
theorem putFD_app {f : Str} {v : D} {fs : List (Str × D)} (h : (fs.map (·.1)).contains f = false) : putFD f v fs = fs ++ [(f, v)] := by
  refine putFD_new fun e he q => ?_
  have : (fs.map (·.1)).contains f = true := by
    rw [List.contains_iff_mem]
    exact q ▸ List.mem_map_of_mem (f := (·.1)) he
  rw [h] at this
  cases this
def tm7 (t : Tr) : List (Str × D) := [("own_tree", dT t), ("own_nodes", .sq true (dA (fx t [] [] 0 0))), ("own_around", .sq true (dB (fx t [] [] 0 0))), ("binder_nodes", .sq true (dC (fx t [] [] 0 0))), ("use_nodes", .sq true (dD (fx t [] [] 0 0))),
  ("own_names", .sq false ((scn t).nm.map D.str)), ("use_around", .sq true ((scn t).us.map fun u => dTupN u.2))]
def tmF (t : Tr) : List (Str × D) := tm7 t ++ [(("own_meaning" : Str), D.sq true ((scn t).us.map fun u => kD (mng (scn t).nm u)))]
theorem fx_at (t : Tr) {e : En} (he : e ∈ fx t [] [] 0 0) : (fx t [] [] 0 0)[e.ix]? = some e := by
  obtain ⟨i, hi, rfl⟩ := List.getElem_of_mem he
  have h1 := fx_ix t [] [] 0 0
  have h2 : ((fx t [] [] 0 0).map En.ix)[i]? = some ((fx t [] [] 0 0)[i]).ix := by rw [List.getElem?_map, List.getElem?_eq_getElem hi]; rfl
  rw [h1] at h2
  have hl := (List.getElem?_eq_some_iff.mp h2).1
  rw [List.getElem?_range' (by simpa using hl)] at h2
  simp at h2
  rw [← h2, List.getElem?_eq_getElem hi]
def W_Term_meant (CT : Addr) : Fw := fun ds M P => ∃ (x : Addr) (t : Tr) (e : En), ds = [.ref x, .int (e.ix : Nat)] ∧ OkT t ∧ nodes t ≤ 25 ∧ e ∈ fx t [] [] 0 0 ∧ M x = some (.ins CT (tm7 t)) ∧ P (kD (mng (scn t).nm (lab e.tr, e.ab))) M
def N_Term_meant : List Str := ["self", "at", "name", "some", "binder"]
def P_Term_meant : List Str := ["self", "at"]
theorem sc_Term_meant : FnScope N_Term_meant P_Term_meant (defScope s_Term_meant) := ⟨rfl, rfl, rfl, by decide +kernel, rfl, by decide +kernel, by decide +kernel⟩
theorem h_Term_meant {z : Cz} {mg : Str → Option Value} {base : Heap} {CF CT : Addr} (G : Gf z mg CF CT) (Dd : DfM z CT "meant" "Term.meant" s_Term_meant)  : HasM z mg base CT "meant" P_Term_meant (0 + 1) (W_Term_meant  CT) := by
  refine okDfM Dd sc_Term_meant (fun _ _ _ _ _ _ us hl => match us, hl with | [_, _], _ => rfl) (fun ds M P hw => ?_) (fun f cdv A outer s H E hr ds M P hw => ?_)
  · obtain ⟨x, t, e, rfl, _⟩ := hw
    rfl
  obtain ⟨x, t, e, rfl, ho, hn, he, hx, k⟩ := hw
  refine ⟨_, (pss_cons (ps_set (i := 2) sc_Term_meant.nd rfl (.inr rfl) (zx_ix z (zx_ix z (zx_fld z (pv 0)) (pv 1)) pe_int)) (pss_cons (ps_setLc (i := 3) (own := [("binder", 4)]) rfl sc_Term_meant.nd rfl rfl (sw_true rfl rfl rfl (by decide +kernel)) (zi_seq z (zx_ix z (zx_fld z (pv 0)) (pv 1))) (blkOk_by (N := N_Term_meant) (sc := defScope s_Term_meant) (by decide +kernel)) (fun _ _ _ _ _ => (pg_name (i := 4) sc_Term_meant.nd rfl (.inl rfl))) (fun _ _ _ _ _ => (pts_one (pt_cmpR (zo_eq z hr) (zx_ix z (zx_fld z (pv 0)) (pv 4)) (pv 2) (nomark _)))) (fun _ _ _ _ _ => (pv 4))) (pss_one (ps_ret (pe_ifExp (pt_cmpR (zo_ne z hr) (pv 3) (pe_lst pa_nil) (nomark _)) (zx_ix z (pv 3) (pe_un ox_neg pe_int)) (pv 2)))))), ?_⟩
  have hat := fx_at t he
  have hab : e.ab.length ≤ 25 := by have := (fx_fit0 t e he).1; have h9 := fx_anl t [] [] 0 0 e he; simp at h9; omega
  obtain ⟨rest, hs⟩ := dT_shape e.tr
  refine s_seq (s_set (ev_op (ev_op (ev_fld (ev_var rfl ⟨CT, _, _, .inl ⟨x, rfl, hx⟩, G.cT, G.nT "own_nodes" (by simp), rfl, ?_⟩)))))
  refine ev_var rfl ⟨_, rfl, .inl ⟨_, dT e.tr, .q, atI_nat _ (by unfold dA; rw [List.getElem?_map, hat]; rfl), ?_⟩⟩
  refine ev_int ⟨1, rfl, .inl ⟨_, .str (lab e.tr), by rw [hs]; exact .q, atI_nat 1 rfl, ?_⟩⟩
  refine s_seq (s_set ?_)
  refine ev_lcX [4] (fun _ h => h) e.ab (fun b => D.int (b : Nat)) (fun b => decide ((scn t).nm[b]? = some (lab e.tr))) (fun b => D.int (b : Nat)) (ei_seq (ev_op (ev_fld (ev_var rfl ⟨CT, _, _, .inl ⟨x, rfl, hx⟩, G.cT, G.nT "own_around" (by simp), rfl, ?_⟩))))
  refine ev_var rfl ⟨_, rfl, .inl ⟨_, dTupN e.ab, .q, atI_nat _ (by unfold dB; rw [List.getElem?_map, hat]; rfl), ⟨_, .q, rfl, szl (by omega), .q, ?_, ?_, .inl ?_⟩⟩⟩
  · intro j b hj
    have hbn : b < (scn t).nm.length := by
      obtain ⟨e2, h1, _⟩ := (fx_fit0 t e he).2 j b hj
      have := (List.getElem?_eq_some_iff.mp h1).1
      simpa [scn] using this
    refine eg_name ⟨rfl, et_test (ev_op (ev_op (ev_fld (ev_var rfl ⟨CT, _, _, .inl ⟨x, rfl, hx⟩, G.cT, G.nT "own_names" (by simp), rfl, ?_⟩))))⟩
    refine ev_var rfl ⟨_, rfl, .inl ⟨_, _, .q, atI_nat b (by rw [List.getElem?_map, List.getElem?_eq_getElem hbn]; rfl), ?_⟩⟩
    walk_at "lve"
    refine ⟨?_, rfl, fun _ => ev_var rfl ⟨rfl, rfl⟩⟩
    rw [List.getElem?_eq_getElem hbn]
    simp
  · rw [List.length_map]; exact Nat.le_trans (List.length_filter_le _ _) (szl (by omega))
  have eh : (e.ab.filter fun b => decide ((scn t).nm[b]? = some (lab e.tr))) = hits (scn t).nm (lab e.tr, e.ab) := rfl
  rw [eh]
  walk_at "lve"
  refine ⟨_, rfl, ⟨0, by decide, fun x hx => ?_⟩, ?_⟩
  · obtain ⟨y, _, rfl⟩ := List.mem_map.mp hx
    exact Da.int
  refine g_bl ⟨fun hb3 => ?_, fun hb3 => ?_⟩
  · have hne : hits (scn t).nm (lab e.tr, e.ab) ≠ [] := by intro q; rw [q] at hb3; simp at hb3
    refine ev_op (ev_var rfl (ev_un (ev_int ⟨1, rfl, _, rfl, .inl ⟨_, _, .q, atI_last (d := kD (mng (scn t).nm (lab e.tr, e.ab))) ?_, k⟩⟩)))
    rw [List.getLast?_map]
    unfold mng
    cases q : (hits (scn t).nm (lab e.tr, e.ab)).getLast? with
    | none => exact absurd (List.getLast?_eq_none_iff.mp q) hne
    | some b => rfl
  · have hne : hits (scn t).nm (lab e.tr, e.ab) = [] := by
      cases q : hits (scn t).nm (lab e.tr, e.ab) with
      | nil => rfl
      | cons b bs => rw [q] at hb3; simp at hb3
    refine ev_var rfl ?_
    unfold mng at k
    rw [hne] at k
    exact k
def W_Term_init (CT : Addr) : Fw := fun ds M P => ∃ (x : Addr) (t : Tr), ds = [.ref x, dT t] ∧ OkT t ∧ nodes t ≤ 25 ∧ bins t ≤ 6 ∧ M x = some (.ins CT []) ∧ P .non (mupd M x (.ins CT (tmF t)))
theorem s_fldX {z : Cz} {Γ : Gam} {M : Mem} {E : PN} {i : Nat} {f : Str} {x C : Addr} {fs : List (Str × D)} {tv : TE} (hi : Γ[i]? = some (some (.ref x))) (hx : M x = some (.ins C fs)) (hc : Cls z.K C) (hn : NoAttr z.K C f) (hl : fs.length < 1000) (hf : (fs.map (·.1)).contains f = false)
    (h : EV z tv Γ M fun v M1 => M1 = M ∧ E.nx Γ (mupd M x (.ins C (fs ++ [(f, v)])))) : EVS z (sFld z.K (tVar i) tv f) Γ M E :=
  s_fld (h.imp fun v M1 ⟨e, k⟩ => by subst e; exact ev_var hi ⟨x, C, fs, rfl, hx, hc, hn, hl, by rw [putFD_app hf]; exact k⟩)
theorem ev_fldO {z : Cz} {Γ : Gam} {M : Mem} {P : D → Mem → Prop} {i : Nat} {f : Str} {C : Addr} {fs : List (Str × D)} {e : D} (hi : Γ[i]? = some (some (.obj C fs))) (hc : Cls z.K C) (hn : NoAttr z.K C f) (hl : fs.lookup f = some e) (k : P e M) : EV z (tFld z.K (tVar i) f) Γ M P :=
  ev_fld (ev_var hi ⟨C, fs, e, .inr rfl, hc, hn, hl, k⟩)
def N_Term_init : List Str := ["self", "tree", "flat", "at"]
def P_Term_init : List Str := ["self", "tree"]
theorem sc_Term_init : FnScope N_Term_init P_Term_init (defScope s_Term_init) := ⟨rfl, rfl, rfl, by decide +kernel, rfl, by decide +kernel, by decide +kernel⟩
theorem h_Term_init {z : Cz} {mg : Str → Option Value} {base : Heap} {CF CT : Addr} (G : Gf z mg CF CT) (Dd : DfI z CT "Term.__init__" s_Term_init) (H_is_tree : Has z mg base "is_tree" P_is_tree (1 + 2 * 25) (W_is_tree 25)) (H_deep_of : Has z mg base "deep_of" P_deep_of (1 + 25) (W_deep_of 25)) (I_Flat : HasI z mg base CF P_Flat_init (1 + 25 + 1) (W_Flat_init CF)) (M_meant : HasM z mg base CT "meant" P_Term_meant 1 (W_Term_meant CT)) : HasI z mg base CT P_Term_init (1 + 2 * 25 + 1) (W_Term_init  CT) := by
  refine okDfI Dd sc_Term_init (fun _ _ _ _ _ _ us hl => match us, hl with | [_, _], _ => rfl) (fun ds M P hw => ?_) (fun f cdv A outer s H E hr ds M P hw => ?_)
  · obtain ⟨x, t, rfl, _⟩ := hw
    rfl
  obtain ⟨x, t, rfl, ho, hn, hb6, hx, k⟩ := hw
  refine ⟨_, (pss_cons (ps_if (pt_not (pt_val (px_call H_is_tree (hr.mono (by omega)) rfl (pa_cons (pv 1) pa_nil)))) (pss_one ps_never) pss_nil) (pss_cons (ps_set (i := 2) sc_Term_init.nd rfl (.inr rfl) (px_make I_Flat G.flat (hr.mono (by omega)) rfl (pa_cons (pv 1) pa_nil))) (pss_cons (ps_if (pt_cmpR ox_gt (pe_callB (zc_len z) rfl G.len boot_len (pa_cons (zx_fld z (pv 2)) pa_nil)) (px_gint G.mnodes rfl) (nomark _)) (pss_one ps_never) pss_nil) (pss_cons (ps_if (pt_cmpR ox_gt (pe_callB (zc_len z) rfl G.len boot_len (pa_cons (zx_fld z (pv 2)) pa_nil)) (px_gint G.mbinders rfl) (nomark _)) (pss_one ps_never) pss_nil) (pss_cons (ps_if (pt_cmpR ox_gt (px_call H_deep_of (hr.mono (by omega)) rfl (pa_cons (pv 1) pa_nil)) (px_gint G.mdeep rfl) (nomark _)) (pss_one ps_never) pss_nil) (pss_cons (zs_fld z (pv 0) (pv 1)) (pss_cons (zs_fld z (pv 0) (zx_fld z (pv 2))) (pss_cons (zs_fld z (pv 0) (zx_fld z (pv 2))) (pss_cons (zs_fld z (pv 0) (zx_fld z (pv 2))) (pss_cons (zs_fld z (pv 0) (zx_fld z (pv 2))) (pss_cons (zs_fld z (pv 0) (pe_callTy (zc_tuple z) rfl G.tuple boot_tuple (pa_cons (pe_lc (own := [("at", 3)]) rfl sc_Term_init.nd (zi_seq z (zx_fld z (pv 2))) (blkOk_by (N := N_Term_init) (sc := defScope s_Term_init) (by decide +kernel)) (fun _ _ _ _ _ => (pg_name (i := 3) sc_Term_init.nd rfl (.inl rfl))) (fun _ _ _ _ _ => pts_nil) (fun _ _ _ _ _ => (zx_ix z (zx_ix z (zx_fld z (pv 2)) (pv 3)) pe_int))) pa_nil))) (pss_cons (zs_fld z (pv 0) (pe_lc (own := [("at", 3)]) rfl sc_Term_init.nd (zi_seq z (zx_fld z (pv 2))) (blkOk_by (N := N_Term_init) (sc := defScope s_Term_init) (by decide +kernel)) (fun _ _ _ _ _ => (pg_name (i := 3) sc_Term_init.nd rfl (.inl rfl))) (fun _ _ _ _ _ => pts_nil) (fun _ _ _ _ _ => (zx_ix z (zx_fld z (pv 2)) (pv 3))))) (pss_one (zs_fld z (pv 0) (pe_lc (own := [("at", 3)]) rfl sc_Term_init.nd (zi_seq z (zx_fld z (pv 2))) (blkOk_by (N := N_Term_init) (sc := defScope s_Term_init) (by decide +kernel)) (fun _ _ _ _ _ => (pg_name (i := 3) sc_Term_init.nd rfl (.inl rfl))) (fun _ _ _ _ _ => pts_nil) (fun _ _ _ _ _ => (px_meth G.cT M_meant (hr.mono (by omega)) (pv 0) (pa_cons (pv 3) pa_nil)))))))))))))))))), ?_⟩
  walk_at "lve"
  refine s_seq ?_
  walk_at "lve"
  refine ⟨t, rfl, ho, hn, ?_⟩
  walk_at "lve"
  refine s_seq (s_set (ev_make (ea_cons (ev_var rfl (ea_nil fun q hq => ⟨q, t, rfl, hn, mupd_same, rfl, ?_⟩)))))
  rw [mupd_mupd]
  refine EVS.freezeI 2 rfl mupd_same ?_
  rw [mdel_mupd hq]
  have hL : (fx t [] [] 0 0).length ≤ 25 := by rw [fx_len]; exact hn
  have hC : (bnd (fx t [] [] 0 0)).length ≤ 6 := by rw [fx_bnd]; exact hb6
  refine s_seq (s_if (et_test (ev_op (ev_cb (ea_cons (ev_fldO rfl G.cF (G.nF "nodes" (by simp)) rfl (ea_nil (.inl ⟨_, _, rfl, .q, ?_⟩))))))))
  walk_at "lve"
  · intro hc
    rw [dA_len] at hc; omega
  intro _
  walk_at "lve"
  refine s_seq (s_if (et_test (ev_op (ev_cb (ea_cons (ev_fldO rfl G.cF (G.nF "binder_nodes" (by simp)) rfl (ea_nil (.inl ⟨_, _, rfl, .q, ?_⟩))))))))
  walk_at "lve"
  · intro hc
    rw [dC_len] at hc; omega
  intro _
  walk_at "lve"
  refine s_seq (s_if (et_test (ev_op (ev_call (ea_cons (ev_var rfl (ea_nil ⟨t, rfl, hn, hn, fun r hr0 hr1 => ?_⟩)))))))
  walk_at "lve"
  · intro hc
    omega
  intro _
  walk_at "lve"
  refine s_seq (s_fldX rfl hx G.cT (G.nT "own_tree" (by simp)) (by simp) rfl (ev_var rfl ⟨rfl, ?_⟩))
  refine s_seq (s_fldX rfl mupd_same G.cT (G.nT "own_nodes" (by simp)) (by simp) rfl (ev_fldO rfl G.cF (G.nF "nodes" (by simp)) rfl ⟨rfl, ?_⟩))
  rw [mupd_mupd]
  refine s_seq (s_fldX rfl mupd_same G.cT (G.nT "own_around" (by simp)) (by simp) rfl (ev_fldO rfl G.cF (G.nF "around" (by simp)) rfl ⟨rfl, ?_⟩))
  rw [mupd_mupd]
  refine s_seq (s_fldX rfl mupd_same G.cT (G.nT "binder_nodes" (by simp)) (by simp) rfl (ev_fldO rfl G.cF (G.nF "binder_nodes" (by simp)) rfl ⟨rfl, ?_⟩))
  rw [mupd_mupd]
  refine s_seq (s_fldX rfl mupd_same G.cT (G.nT "use_nodes" (by simp)) (by simp) rfl (ev_fldO rfl G.cF (G.nF "use_nodes" (by simp)) rfl ⟨rfl, ?_⟩))
  rw [mupd_mupd]
  have eC : dC (fx t [] [] 0 0) = (bnd (fx t [] [] 0 0)).map fun e => D.int (e.ix : Nat) := by unfold dC dN; rw [List.map_map]; rfl
  have eD : dD (fx t [] [] 0 0) = (usd (fx t [] [] 0 0)).map fun e => D.int (e.ix : Nat) := by unfold dD dN; rw [List.map_map]; rfl
  have hU : (usd (fx t [] [] 0 0)).length ≤ 25 := Nat.le_trans (List.length_filter_le _ _) hL
  -- own_names
  refine s_seq (s_fldX rfl mupd_same G.cT (G.nT "own_names" (by simp)) (by simp) rfl (ev_cb (ea_cons ?_)))
  refine ev_lcA [3] (fun _ h => h) (bnd (fx t [] [] 0 0)) (fun e => D.int (e.ix : Nat)) (fun e => D.str (lab e.tr)) (ei_seq (ev_fldO rfl G.cF (G.nF "binder_nodes" (by simp)) rfl ⟨_, .q, eC, szl (by omega), .q, ?_, ?_, .inl ?_⟩))
  · intro i e he
    have he' : e ∈ fx t [] [] 0 0 := (List.mem_filter.mp (List.mem_of_getElem? he)).1
    obtain ⟨rest, hs⟩ := dT_shape e.tr
    refine eg_name ⟨rfl, ev_op (ev_op (ev_fldO rfl G.cF (G.nF "nodes" (by simp)) rfl (ev_var rfl ⟨_, rfl, .inl ⟨_, dT e.tr, .q, atI_nat _ (by unfold dA; rw [List.getElem?_map, fx_at t he']; rfl), ?_⟩⟩)))⟩
    exact ev_int ⟨1, rfl, .inl ⟨_, .str (lab e.tr), by rw [hs]; exact .q, atI_nat 1 rfl, rfl, rfl⟩⟩
  · rw [List.length_map]; exact szl (by omega)
  have eN : (bnd (fx t [] [] 0 0)).map (fun e => D.str (lab e.tr)) = (scn t).nm.map D.str := by unfold scn; rw [List.map_map]; rfl
  rw [eN]
  have hnm : ((scn t).nm.map D.str).length ≤ sizeLine := by unfold scn; rw [List.length_map, List.length_map]; exact szl (by omega)
  refine ea_nil ⟨_, _, rfl, .q, hnm, rfl, ?_⟩
  rw [mupd_mupd]
  -- use_around
  refine s_seq (s_fldX rfl mupd_same G.cT (G.nT "use_around" (by simp)) (by simp) rfl ?_)
  refine ev_lcA [3] (fun _ h => h) (usd (fx t [] [] 0 0)) (fun e => D.int (e.ix : Nat)) (fun e => dTupN e.ab) (ei_seq (ev_fldO rfl G.cF (G.nF "use_nodes" (by simp)) rfl ⟨_, .q, eD, szl (by omega), .q, ?_, ?_, .inl ⟨rfl, ?_⟩⟩))
  · intro i e he
    have he' : e ∈ fx t [] [] 0 0 := (List.mem_filter.mp (List.mem_of_getElem? he)).1
    exact eg_name ⟨rfl, ev_op (ev_fldO rfl G.cF (G.nF "around" (by simp)) rfl (ev_var rfl ⟨_, rfl, .inl ⟨_, dTupN e.ab, .q, atI_nat _ (by unfold dB; rw [List.getElem?_map, fx_at t he']; rfl), rfl, rfl⟩⟩))⟩
  · rw [List.length_map]; exact szl (by omega)
  rw [mupd_mupd]
  have eA : (usd (fx t [] [] 0 0)).map (fun e => dTupN e.ab) = (scn t).us.map fun u => dTupN u.2 := by unfold scn; rw [List.map_map]; rfl
  rw [eA]
  -- own_meaning
  refine s_fldX rfl mupd_same G.cT (G.nT "own_meaning" (by simp)) (by simp) rfl ?_
  refine ev_lcA [3] (fun _ h => h) (usd (fx t [] [] 0 0)) (fun e => D.int (e.ix : Nat)) (fun e => kD (mng (scn t).nm (lab e.tr, e.ab))) (ei_seq (ev_fldO rfl G.cF (G.nF "use_nodes" (by simp)) rfl ⟨_, .q, eD, szl (by omega), .q, ?_, ?_, .inl ⟨rfl, ?_⟩⟩))
  · intro i e he
    have he' : e ∈ fx t [] [] 0 0 := (List.mem_filter.mp (List.mem_of_getElem? he)).1
    exact eg_name ⟨rfl, ev_meth (ev_var rfl ⟨_, .inl ⟨x, rfl, mupd_same⟩, rfl, ea_cons (ev_var rfl (ea_nil ⟨x, t, e, rfl, ho, hn, he', mupd_same, rfl, rfl⟩))⟩)⟩
  · rw [List.length_map]; exact szl (by omega)
  rw [mupd_mupd]
  have eM : (usd (fx t [] [] 0 0)).map (fun e => kD (mng (scn t).nm (lab e.tr, e.ab))) = (scn t).us.map fun u => kD (mng (scn t).nm u) := by unfold scn; rw [List.map_map]; rfl
  rw [eM]
  exact k
def W_law_made (CT : Addr) : Fw := fun ds M P => ∃ (t : Tr), ds = [dT t] ∧ OkT t ∧ nodes t ≤ 25 ∧ bins t ≤ 6 ∧ P (.obj CT (tmF t)) M
def N_law_made : List Str := ["_law_tree_here"]
def P_law_made : List Str := ["_law_tree_here"]
theorem sc_law_made : FnScope N_law_made P_law_made (defScope s_law_made) := ⟨rfl, rfl, rfl, by decide +kernel, rfl, by decide +kernel, by decide +kernel⟩
theorem h_law_made {z : Cz} {mg : Str → Option Value} {base : Heap} {CF CT : Addr} (G : Gf z mg CF CT) (Dd : Df z mg "_law_made" s_law_made) (I_Term : HasI z mg base CT P_Term_init (1 + 2 * 25 + 1) (W_Term_init CT)) : Has z mg base "_law_made" P_law_made (3 + 2 * 25 + 1) (W_law_made  CT) := by
  refine okDf Dd sc_law_made (fun _ _ _ _ _ _ us hl => match us, hl with | [_], _ => rfl) (fun ds M P hw => ?_) (fun f cdv A outer s H E hr ds M P hw => ?_)
  · obtain ⟨t, rfl, _⟩ := hw
    rfl
  obtain ⟨t, rfl, ho, hn, hb, k⟩ := hw
  refine ⟨_, (pss_one (ps_ret (px_make I_Term G.term (hr.mono (by omega)) rfl (pa_cons (pv 0) pa_nil)))), ?_⟩
  refine s_ret (EV.freezeI (ev_make (ea_cons (ev_var rfl (ea_nil fun q hq => ⟨q, t, rfl, ho, hn, hb, mupd_same, rfl, ?_⟩)))))
  rw [mupd_mupd]
  refine ⟨q, CT, tmF t, rfl, mupd_same, ?_⟩
  rw [mdel_mupd hq]
  exact k
end Lv

set_option Elab.async false
set_option linter.all false
set_option maxRecDepth 100000
set_option maxHeartbeats 4000000
set_option pp.maxSteps 400
set_option pp.deepTerms false
namespace Lv
open PySem PySem.Spec PyProof.Rows L2 StX
local macro_rules
  | `(tactic| walk_at "lv1") => `(tactic| with_reducible (first
    | refine s_set ?_ | refine s_ret ?_ | refine s_if ?_ | refine s_drop ?_ | refine s_next ?_ | refine s_par ?_ | refine s_par3 ?_ | refine s_subL ?_ | refine s_unl2 ?_ | refine s_tup2 ?_ | refine eg_unl2 ?_ | refine eg_unl3 ?_ | refine eg_tup2 ?_
    | refine ev_var rfl ?_ | refine ev_int ?_ | refine ev_str ?_ | refine ev_bl ?_ | refine ev_non ?_ | refine ev_ref ?_
    | refine ev_lst0 ?_ | refine ev_eqE ?_ | refine ev_neE ?_ | refine ev_op ?_ | refine ev_un ?_ | refine ev_isiLT ?_ | refine ev_isi ?_ | refine ev_cb ?_ | refine ev_chain ?_ | refine ev_andV ?_ | refine ev_orV ?_ | refine ev_notV ?_ | refine ev_if ?_ | refine ev_tup ?_ | refine ev_call ?_
    | refine et_and ?_ | refine et_or ?_ | refine et_not ?_ | refine et_test ?_ | refine et_b ?_ | refine et_yes ?_
    | refine ea_cons ?_ | refine ea_nil ?_
    | refine g_int2 ?_ | refine g_bl ?_ | refine g_int ?_ | refine g_addI ?_ | refine g_eqI ?_ | refine g_eqSt ?_ | refine g_eqSf (by decide +kernel) ?_ | refine g_eqS ?_ | refine g_eqIS ?_ | refine g_eqSI ?_ | refine g_eqNS ?_ | refine g_isn ?_
    | refine g_par ?_ | refine g_par3 ?_ | refine g_neg ?_
    | refine g_ifT ?_ | refine g_ifNT ?_ | refine g_ifNF ?_ | refine g_ifF ?_ | refine g_ifD ?_ ?_ | refine g_ifDN ?_ ?_
    | refine eg_name ?_ | refine eg_setL ?_))
local macro_rules
  | `(tactic| walk_at "lvM") => `(tactic| first | assumption | exact mupd_same)
local macro_rules
  | `(tactic| walk_at "lvW") => `(tactic| with_unfolding_all rfl)
local macro_rules
  | `(tactic| walk_at "lvA") => `(tactic| first | with_unfolding_all rfl | with_unfolding_all exact atI_nat 0 rfl | with_unfolding_all exact atI_nat 1 rfl)
local macro_rules
  | `(tactic| walk_at "lv2") => `(tactic| with_reducible (first
    | refine ⟨_, _, (by walk_at "lvW"), kb_ii, ?_⟩ | refine ⟨_, _, (by walk_at "lvW"), kb_ib, ?_⟩ | refine ⟨_, _, (by walk_at "lvW"), kb_is, ?_⟩ | refine ⟨_, _, (by walk_at "lvW"), kb_ss, ?_⟩ | refine ⟨_, _, (by walk_at "lvW"), kb_tt, ?_⟩
    | refine .inl ⟨_, _, rfl, IsS.q, ?_⟩ | refine .inl ⟨_, _, rfl, IsS.r (by walk_at "lvM"), ?_⟩ | refine .inl ⟨_, _, rfl, IsS.sc, ?_⟩
    | refine .inl ⟨_, _, IsS.q, (by walk_at "lvA"), ?_⟩ | refine .inl ⟨_, _, IsS.r (by walk_at "lvM"), (by walk_at "lvA"), ?_⟩
    | refine .inl (g_int2 (And.intro (CMul.l (by omega) (by omega)) ?_)) | refine .inl (g_int2 (And.intro (CMul.r (by omega) (by omega)) ?_))
    | refine And.intro (CDiv.mk (by omega) (by omega)) ?_ | refine And.intro (by omega) ?_ | refine And.intro (Nat.le_of_ble_eq_true (by walk_at "lvW")) ?_
    | refine .inl ⟨_, _, rfl, ?_⟩
    | refine .inl ⟨_, rfl, ?_⟩ | refine .inr ⟨_, rfl, ?_⟩
    | refine ⟨_, _, _, _, rfl, (by walk_at "lvM"), rfl, (by walk_at "lvW"), ?_⟩
    | refine ⟨_, _, rfl, IsL.q, ?_⟩
    | refine ⟨_, rfl, .inl ⟨_, _, IsS.q, (by walk_at "lvA"), ?_⟩⟩))
local macro_rules
  | `(tactic| walk_at "lvm") => `(tactic| repeat' (first | walk_at "lv1" | (with_reducible refine s_seq ?_) | walk_at "lv2" | dsimp only))
local macro_rules
  | `(tactic| walk_at "lve") => `(tactic| repeat' (first | walk_at "lv1" | (with_reducible refine ev_lst ?_) | walk_at "lv2" | dsimp only))
local macro_rules
  | `(tactic| walk_at "lv") => `(tactic| repeat' (first | walk_at "lv1" | (with_reducible refine ev_lst ?_) | (with_reducible refine s_seq ?_) | walk_at "lv2" | dsimp only))
local macro_rules
  | `(tactic| walk_at "lve0") => `(tactic| repeat' (first
    | (with_reducible first | refine ev_var rfl ?_ | refine ev_int ?_ | refine ev_str ?_ | refine et_test ?_ | refine ev_eqE ?_ | refine ev_op ?_ | refine g_bl ?_ | refine g_eqI ?_ | refine g_eqSt ?_ | refine g_eqSf (by decide +kernel) ?_ | refine g_eqS ?_ | refine g_int ?_ | refine g_ifT ?_ | refine g_ifF ?_ | refine g_ifD ?_ ?_) | walk_at "lv2" | dsimp only))
local macro_rules
  | `(tactic| walk_at "lvx") => `(tactic| repeat' (first | (refine fun hx => absurd hx ?_; (with_reducible fail_if_success assumption); simp; done) | (refine fun _ => ?_; walk_at "lv")))
def dTm (CT : Addr) (t : Tr) : D := .obj CT (tmF t)
def W_look_at_term (CT : Addr) : Fw := fun ds M P => ∃ t, ds = [dTm CT t] ∧ P .non M
def N_look_at_term : List Str := ["term"]
def P_look_at_term : List Str := ["term"]
theorem sc_look_at_term : FnScope N_look_at_term P_look_at_term (defScope s_look_at_term) := ⟨rfl, rfl, rfl, by decide +kernel, rfl, by decide +kernel, by decide +kernel⟩
theorem h_look_at_term {z : Cz} {mg : Str → Option Value} {base : Heap} {CF CT : Addr} (G : Gf z mg CF CT) (Dd : Df z mg "look_at_term" s_look_at_term)  : Has z mg base "look_at_term" P_look_at_term (0 + 1) (W_look_at_term  CT) := by
  refine okDf Dd sc_look_at_term (fun _ _ _ _ _ _ us hl => match us, hl with | [_], _ => rfl) (fun ds M P hw => ?_) (fun f cdv A outer s H E hr ds M P hw => ?_)
  · obtain ⟨t, rfl, _⟩ := hw
    rfl
  obtain ⟨t, rfl, k⟩ := hw
  refine ⟨_, (pss_one (ps_if (pt_not (pt_val (pe_callB (zc_isi z) rfl G.isinstance boot_isinstance (pa_cons (pv 0) (pa_cons (px_cls G.term rfl) pa_nil))))) (pss_one ps_never) pss_nil)), ?_⟩
  refine s_if (et_not (et_b (ev_isiC G.iT (ev_var rfl ⟨_, rfl, ?_⟩))))
  walk_at "lve"
  exact k
def W_are_such_names (CT : Addr) : Fw := fun ds M P => ∃ (t : Tr) (k : Bool) (xs : List Str), ds = [dTm CT t, .sq k (xs.map D.str)] ∧ xs.length = (scn t).nm.length ∧ xs.length ≤ 100 ∧ (∀ x ∈ xs, OkName x) ∧ P (.bl true) M
def N_are_such_names : List Str := ["term", "value", "name"]
def P_are_such_names : List Str := ["term", "value"]
theorem sc_are_such_names : FnScope N_are_such_names P_are_such_names (defScope s_are_such_names) := ⟨rfl, rfl, rfl, by decide +kernel, rfl, by decide +kernel, by decide +kernel⟩
theorem h_are_such_names {z : Cz} {mg : Str → Option Value} {base : Heap} {CF CT : Addr} (G : Gf z mg CF CT) (Dd : Df z mg "are_such_names" s_are_such_names) (H_is_line : Has z mg base "is_line" P_is_line 1 W_is_line) (H_is_name : Has z mg base "is_name" P_is_name 1 W_is_name) : Has z mg base "are_such_names" P_are_such_names (1 + 1) (W_are_such_names  CT) := by
  refine okDf Dd sc_are_such_names (fun _ _ _ _ _ _ us hl => match us, hl with | [_, _], _ => rfl) (fun ds M P hw => ?_) (fun f cdv A outer s H E hr ds M P hw => ?_)
  · obtain ⟨t, k, xs, rfl, _⟩ := hw
    rfl
  obtain ⟨t, kk, xs, rfl, hl, hl2, hx, k⟩ := hw
  refine ⟨_, (pss_cons (ps_if (PW.pt (pw_or (pt_not (pt_val (px_call H_is_line (hr.mono (by omega)) rfl (pa_cons (pv 1) pa_nil)))) (pw_or1 (pt_cmpR (zo_ne z hr) (pe_callB (zc_len z) rfl G.len boot_len (pa_cons (pv 1) pa_nil)) (pe_callB (zc_len z) rfl G.len boot_len (pa_cons (zx_fld z (pv 0)) pa_nil)) (nomark _))))) (pss_one (ps_ret pe_bl)) pss_nil) (pss_one (ps_ret (pe_callB (zc_all z) rfl G.all boot_all (pa_cons (pe_lc (own := [("name", 2)]) rfl sc_are_such_names.nd (zi_seq z (pv 1)) (blkOk_by (N := N_are_such_names) (sc := defScope s_are_such_names) (by decide +kernel)) (fun _ _ _ _ _ => (pg_name (i := 2) sc_are_such_names.nd rfl (.inl rfl))) (fun _ _ _ _ _ => pts_nil) (fun _ _ _ _ _ => (px_call H_is_name (hr.mono (by omega)) rfl (pa_cons (pv 2) pa_nil)))) pa_nil))))), ?_⟩
  refine s_seq ?_
  walk_at "lve"
  refine ⟨kk, _, rfl, ?_⟩
  walk_at "lve"
  refine ev_fldO rfl G.cT (G.nT "own_names" (by simp)) rfl ?_
  walk_at "lve"
  · intro hb
    rw [List.length_map, List.length_map, hl] at hb; simp at hb
  intro _
  walk_at "lve"
  refine ev_lcA [2] (fun _ h => h) xs D.str (fun _ => .bl true) (ei_seq (ev_var rfl ⟨_, .q, rfl, szl (by omega), .q, ?_, ?_, .inl ?_⟩))
  · intro i x hxi
    walk_at "lve"
    refine ⟨rfl, ?_⟩
    walk_at "lve"
    exact ⟨x, rfl, hx x (List.mem_of_getElem? hxi), rfl, rfl⟩
  · rw [List.length_map]; exact szl (by omega)
  walk_at "lve"
  refine ⟨_, xs.map fun _ => true, rfl, .inl (by rw [List.map_map]; rfl), ?_⟩
  have : (xs.map fun _ => true).all id = true := by rw [List.all_map, List.all_eq_true]; intro x _; rfl
  rw [this]
  exact k
def W_look_at_names (CT : Addr) : Fw := fun ds M P => ∃ (t : Tr) (k : Bool) (xs : List Str), ds = [dTm CT t, .sq k (xs.map D.str)] ∧ xs.length = (scn t).nm.length ∧ xs.length ≤ 100 ∧ (∀ x ∈ xs, OkName x) ∧ P .non M
def N_look_at_names : List Str := ["term", "names"]
def P_look_at_names : List Str := ["term", "names"]
theorem sc_look_at_names : FnScope N_look_at_names P_look_at_names (defScope s_look_at_names) := ⟨rfl, rfl, rfl, by decide +kernel, rfl, by decide +kernel, by decide +kernel⟩
theorem h_look_at_names {z : Cz} {mg : Str → Option Value} {base : Heap} {CF CT : Addr} (G : Gf z mg CF CT) (Dd : Df z mg "look_at_names" s_look_at_names) (H_look_at_term : Has z mg base "look_at_term" P_look_at_term 1 (W_look_at_term CT)) (H_are_such_names : Has z mg base "are_such_names" P_are_such_names 2 (W_are_such_names CT)) : Has z mg base "look_at_names" P_look_at_names (2 + 1) (W_look_at_names  CT) := by
  refine okDf Dd sc_look_at_names (fun _ _ _ _ _ _ us hl => match us, hl with | [_, _], _ => rfl) (fun ds M P hw => ?_) (fun f cdv A outer s H E hr ds M P hw => ?_)
  · obtain ⟨t, k, xs, rfl, _⟩ := hw
    rfl
  obtain ⟨t, kk, xs, rfl, hl, hl2, hx, k⟩ := hw
  refine ⟨_, (pss_cons (ps_expr (px_call H_look_at_term (hr.mono (by omega)) rfl (pa_cons (pv 0) pa_nil))) (pss_one (ps_if (pt_not (pt_val (px_call H_are_such_names (hr.mono (by omega)) rfl (pa_cons (pv 0) (pa_cons (pv 1) pa_nil))))) (pss_one ps_never) pss_nil))), ?_⟩
  walk_at "lve"
  refine s_seq ?_
  walk_at "lve"
  refine ⟨t, rfl, ?_⟩
  walk_at "lve"
  refine ⟨t, kk, xs, rfl, hl, hl2, hx, ?_⟩
  walk_at "lve"
  exact k
def nmf (xs : List Str) : Key → Str
  | .inr s => s
  | .inl i => xs.getD i.toNat ""
def mOk (n : Nat) : Key → Prop
  | .inr _ => True
  | .inl i => ∃ b : Nat, i = (b : Nat) ∧ b < n
def W_name_for : Fw := fun ds M P => ∃ (k : Bool) (xs : List Str) (m : Key), ds = [.sq k (xs.map D.str), kD m] ∧ mOk xs.length m ∧ P (.str (nmf xs m)) M
def N_name_for : List Str := ["names", "meant"]
def P_name_for : List Str := ["names", "meant"]
theorem sc_name_for : FnScope N_name_for P_name_for (defScope s_name_for) := ⟨rfl, rfl, rfl, by decide +kernel, rfl, by decide +kernel, by decide +kernel⟩
theorem h_name_for {z : Cz} {mg : Str → Option Value} {base : Heap} {CF CT : Addr} (G : Gf z mg CF CT) (Dd : Df z mg "name_for" s_name_for)  : Has z mg base "name_for" P_name_for (0 + 1) (W_name_for) := by
  refine okDf Dd sc_name_for (fun _ _ _ _ _ _ us hl => match us, hl with | [_, _], _ => rfl) (fun ds M P hw => ?_) (fun f cdv A outer s H E hr ds M P hw => ?_)
  · obtain ⟨k, xs, m, rfl, _⟩ := hw
    rfl
  obtain ⟨kk, xs, m, rfl, hm, k⟩ := hw
  refine ⟨_, (pss_one (ps_ret (pe_ifExp (pt_val (pe_callB (zc_isi z) rfl G.isinstance boot_isinstance (pa_cons (pv 1) (pa_cons (px_ty G.str boot_str2 rfl) pa_nil)))) (pv 1) (zx_ix z (pv 0) (pv 1))))), ?_⟩
  cases m with
  | inr s =>
    refine s_ret (ev_if (et_b (ev_isi (ev_var rfl ⟨_, _, rfl, kb_ss, ?_⟩))))
    walk_at "lve"
    exact k
  | inl i =>
    obtain ⟨b, rfl, hb⟩ := hm
    refine s_ret (ev_if (et_b (ev_isi (ev_var rfl ⟨_, _, rfl, kb_is, ?_⟩))))
    walk_at "lve"
    refine ⟨_, rfl, .inl ⟨_, _, .q, atI_nat b (by rw [List.getElem?_map, List.getElem?_eq_getElem hb]; rfl), ?_⟩⟩
    have e : nmf xs (.inl (b : Nat)) = xs[b] := by
      show xs.getD (Int.toNat (b : Nat)) "" = xs[b]
      rw [Int.toNat_natCast, List.getD_eq_getElem?_getD, List.getElem?_eq_getElem hb]
      rfl
    rw [e] at k
    exact k
def inn (A : List Nat) : Key → List Nat
  | .inr _ => A
  | .inl i => A.filter fun b => decide (i < (b : Nat))
def W_inner : Fw := fun ds M P => ∃ (A : List Nat) (m : Key), ds = [dTupN A, kD m] ∧ A.length ≤ 100 ∧ P (.sq true (dN (inn A m))) M
def N_inner : List Str := ["around", "meant", "binder"]
def P_inner : List Str := ["around", "meant"]
theorem sc_inner : FnScope N_inner P_inner (defScope s_inner) := ⟨rfl, rfl, rfl, by decide +kernel, rfl, by decide +kernel, by decide +kernel⟩
theorem h_inner {z : Cz} {mg : Str → Option Value} {base : Heap} {CF CT : Addr} (G : Gf z mg CF CT) (Dd : Df z mg "inner" s_inner)  : Has z mg base "inner" P_inner (0 + 1) (W_inner) := by
  refine okDf Dd sc_inner (fun _ _ _ _ _ _ us hl => match us, hl with | [_, _], _ => rfl) (fun ds M P hw => ?_) (fun f cdv A outer s H E hr ds M P hw => ?_)
  · obtain ⟨A, m, rfl, _⟩ := hw
    rfl
  obtain ⟨A, m, rfl, hA, k⟩ := hw
  refine ⟨_, (pss_one (ps_ret (pe_ifExp (pt_val (pe_callB (zc_isi z) rfl G.isinstance boot_isinstance (pa_cons (pv 1) (pa_cons (px_ty G.str boot_str2 rfl) pa_nil)))) (pe_callTy (zc_list z) rfl G.list boot_list (pa_cons (pv 0) pa_nil)) (pe_lc (own := [("binder", 2)]) rfl sc_inner.nd (zi_seq z (pv 0)) (blkOk_by (N := N_inner) (sc := defScope s_inner) (by decide +kernel)) (fun _ _ _ _ _ => (pg_name (i := 2) sc_inner.nd rfl (.inl rfl))) (fun _ _ _ _ _ => (pts_one (pt_cmpR ox_gt (pv 2) (pv 1) (nomark _)))) (fun _ _ _ _ _ => (pv 2)))))), ?_⟩
  cases m with
  | inr s =>
    refine s_ret (ev_if (et_b (ev_isi (ev_var rfl ⟨_, _, rfl, kb_ss, ?_⟩))))
    walk_at "lve"
    exact ⟨by unfold dN; rw [List.length_map]; exact szl (by omega), .inl k⟩
  | inl i =>
    refine s_ret (ev_if (et_b (ev_isi (ev_var rfl ⟨_, _, rfl, kb_is, ?_⟩))))
    walk_at "lve"
    refine ev_lcX [2] (fun _ h => h) A (fun b => D.int (b : Nat)) (fun b => decide (i < (b : Nat))) (fun b => D.int (b : Nat)) (ei_seq (ev_var rfl ⟨_, .q, rfl, szl (by omega), .q, ?_, ?_, .inl k⟩))
    · intro j b hj
      refine eg_name ⟨rfl, et_test (ev_op (ev_var rfl (ev_var rfl ?_)))⟩
      exact ⟨_, _, rfl, rfl, _, rfl, rfl, rfl, fun _ => ev_var rfl ⟨rfl, rfl⟩⟩
    · rw [List.length_map]; exact Nat.le_trans (List.length_filter_le _ _) (szl (by omega))
/-- no use is caught: what a use inside a binder means is not named as the binder -/
def NoCatch (S : Scn) (xs : List Str) : Prop := ∀ u ∈ S.us, ∀ b ∈ inn u.2 (mng S.nm u), xs[b]? ≠ some (nmf xs (mng S.nm u))
theorem mng_ok {S : Scn} (s : Sound S) {u : Str × List Nat} (hu : u ∈ S.us) {n : Nat} (hn : n = S.nm.length) : mOk n (mng S.nm u) := by
  unfold mng
  cases q : (hits S.nm u).getLast? with
  | none => exact trivial
  | some b =>
    refine ⟨b, rfl, ?_⟩
    have hb := List.mem_of_getLast? q
    obtain ⟨h1, h2⟩ := List.mem_filter.mp hb
    have := of_decide_eq_true h2
    have := (List.getElem?_eq_some_iff.mp this).1
    omega
theorem us_lt {S : Scn} (s : Sound S) {u : Str × List Nat} (hu : u ∈ S.us) {b : Nat} (hb : b ∈ u.2) : b < S.nm.length := by
  obtain ⟨i, hi, rfl⟩ := List.getElem_of_mem hb
  have := s.usA u hu i _ (List.getElem?_eq_getElem hi)
  have := (List.getElem?_eq_some_iff.mp this).1
  rw [s.len] at this
  exact this
theorem inn_sub {A : List Nat} {m : Key} {b : Nat} (h : b ∈ inn A m) : b ∈ A := by
  cases m with
  | inr s => exact h
  | inl i => exact (List.mem_filter.mp h).1
theorem us_len {t : Tr} (hn : nodes t ≤ 25) {u : Str × List Nat} (hu : u ∈ (scn t).us) : u.2.length ≤ 25 := by
  obtain ⟨e, he, rfl⟩ := List.mem_map.mp hu
  have he' := (List.mem_filter.mp he).1
  have := (fx_fit0 t e he').1
  have h9 := fx_anl t [] [] 0 0 e he'
  simp at h9
  show e.ab.length ≤ 25
  omega
theorem usN {t : Tr} (hn : nodes t ≤ 25) : (scn t).us.length ≤ 25 := by
  unfold scn
  rw [List.length_map]
  refine Nat.le_trans (List.length_filter_le _ _) ?_
  rw [fx_len]; exact hn
theorem nmN (t : Tr) : (scn t).nm.length = bins t := by
  unfold scn
  rw [List.length_map, fx_bnd]
def W_catches_of (CT : Addr) : Fw := fun ds M P => ∃ (t : Tr) (k : Bool) (xs : List Str), ds = [dTm CT t, .sq k (xs.map D.str)] ∧ OkT t ∧ nodes t ≤ 25 ∧ xs.length = (scn t).nm.length ∧ NoCatch (scn t) xs ∧ P (.sq true []) M
def N_catches_of : List Str := ["term", "names", "found", "use", "meant", "some", "binder"]
def P_catches_of : List Str := ["term", "names"]
theorem sc_catches_of : FnScope N_catches_of P_catches_of (defScope s_catches_of) := ⟨rfl, rfl, rfl, by decide +kernel, rfl, by decide +kernel, by decide +kernel⟩
theorem h_catches_of {z : Cz} {mg : Str → Option Value} {base : Heap} {CF CT : Addr} (G : Gf z mg CF CT) (Dd : Df z mg "catches_of" s_catches_of) (H_inner : Has z mg base "inner" P_inner 1 W_inner) (H_name_for : Has z mg base "name_for" P_name_for 1 W_name_for) : Has z mg base "catches_of" P_catches_of (1 + 1) (W_catches_of  CT) := by
  refine okDf Dd sc_catches_of (fun _ _ _ _ _ _ us hl => match us, hl with | [_, _], _ => rfl) (fun ds M P hw => ?_) (fun f cdv A outer s H E hr ds M P hw => ?_)
  · obtain ⟨t, k, xs, rfl, _⟩ := hw
    rfl
  obtain ⟨t, kk, xs, rfl, ho, hn, hl, hc, k⟩ := hw
  refine ⟨_, (pss_cons (ps_set (i := 2) sc_catches_of.nd rfl (.inl rfl) (pe_lst pa_nil)) (pss_cons (ps_for PassesOwn.never rfl (zi_enum z G.enumerate (pa_cons (zx_fld z (pv 0)) pa_nil)) (zg_tup (n := 2) z (pgs_cons (pg_name (i := 3) sc_catches_of.nd rfl (.inr rfl)) (pgs_cons (pg_name (i := 4) sc_catches_of.nd rfl (.inr rfl)) pgs_nil))) (pss_cons (ps_setLc (i := 5) (own := [("binder", 6)]) rfl sc_catches_of.nd rfl rfl (sw_true rfl rfl rfl (by decide +kernel)) (zi_seq z (px_call H_inner (hr.mono (by omega)) rfl (pa_cons (zx_ix z (zx_fld z (pv 0)) (pv 3)) (pa_cons (pv 4) pa_nil)))) (blkOk_by (N := N_catches_of) (sc := defScope s_catches_of) (by decide +kernel)) (fun _ _ _ _ _ => (pg_name (i := 6) sc_catches_of.nd rfl (.inl rfl))) (fun _ _ _ _ _ => (pts_one (pt_cmpR (zo_eq z hr) (zx_ix z (pv 1) (pv 6)) (px_call H_name_for (hr.mono (by omega)) rfl (pa_cons (pv 1) (pa_cons (pv 4) pa_nil))) (nomark _)))) (fun _ _ _ _ _ => (pv 6))) (pss_one (ps_expr (zx_bm z PySem.F.plainAttrs_list PySem.F.slot_list_extend PySem.F.type_list_extend xm_extend (pv 2) (pa_cons (pe_lc (own := [("binder", 6)]) rfl sc_catches_of.nd (zi_seq z (pv 5)) (blkOk_by (N := N_catches_of) (sc := defScope s_catches_of) (by decide +kernel)) (fun _ _ _ _ _ => (pg_name (i := 6) sc_catches_of.nd rfl (.inl rfl))) (fun _ _ _ _ _ => pts_nil) (fun _ _ _ _ _ => (pe_tup (pa_cons (pv 3) (pa_cons (pv 6) (pa_cons (pv 4) pa_nil)))))) pa_nil)))))) (pss_one (ps_ret (pv 2))))), ?_⟩
  have snd := sound_scn ho
  walk_at "lve"
  refine s_seq ?_
  walk_at "lve"
  intro p hp
  refine s_seq (s_for (js := [3, 4]) (ei_enum (ea_cons (ev_fldO rfl G.cT (G.nT "own_meaning" (by simp)) rfl (ea_nil ⟨_, _, rfl, .q, fun i γ m => ∃ c3 c4 c5 c6, γ = [some (dTm CT t), some (.sq kk (xs.map D.str)), some (.ref p), c3, c4, c5, c6] ∧ m = mupd M p (.lst []), ⟨_, _, _, _, rfl, rfl⟩, fun _ _ _ _ _ => .q, ?_, ?_⟩)))))
  · rintro i x γ m hx ⟨c3, c4, c5, c6, rfl, rfl⟩
    rw [pairs_map, List.getElem?_map] at hx
    rw [List.getElem?_zipIdx] at hx
    cases qu : (scn t).us[i]? with
    | none => rw [qu] at hx; cases hx
    | some u =>
      rw [qu] at hx
      simp only [Option.map_some] at hx
      cases hx
      have hu := List.mem_of_getElem? qu
      walk_at "lve"
      refine s_seq (s_set ?_)
      refine ev_lcX [6] (fun _ h => h) (inn u.2 (mng (scn t).nm u)) (fun b => D.int (b : Nat)) (fun _ => false) (fun b => D.int (b : Nat)) (ei_seq (ev_call (ea_cons (ev_op (ev_fldO rfl G.cT (G.nT "use_around" (by simp)) rfl (ev_var rfl ⟨_, rfl, .inl ⟨_, dTupN u.2, .q, atI_nat (0 + i) (by rw [Nat.zero_add, List.getElem?_map, qu]; rfl), ?_⟩⟩))))))
      refine ea_cons (ev_var rfl (ea_nil ⟨u.2, _, rfl, Nat.le_trans (us_len hn hu) (by omega), ?_⟩))
      have hil : (inn u.2 (mng (scn t).nm u)).length ≤ 25 := by
        refine Nat.le_trans ?_ (us_len hn hu)
        cases mng (scn t).nm u with
        | inr s => exact Nat.le_refl _
        | inl j => exact List.length_filter_le _ _
      refine ⟨_, .q, rfl, szl (by omega), .q, ?_, ?_, .inl ?_⟩
      · intro j b hj
        have hbi := List.mem_of_getElem? hj
        have hb : b < xs.length := by rw [hl]; exact us_lt snd hu (inn_sub hbi)
        refine eg_name ⟨rfl, et_test (ev_op (ev_op (ev_var rfl (ev_var rfl ⟨_, rfl, .inl ⟨_, .str xs[b], .q, atI_nat b (by rw [List.getElem?_map, List.getElem?_eq_getElem hb]; rfl), ?_⟩⟩))))⟩
        refine ev_call (ea_cons (ev_var rfl (ea_cons (ev_var rfl (ea_nil ⟨kk, xs, mng (scn t).nm u, rfl, mng_ok snd hu hl, ?_⟩)))))
        walk_at "lve"
        refine ⟨?_, rfl, fun q => ?_⟩
        · refine decide_eq_false fun q => hc u hu b hbi ?_
          rw [List.getElem?_eq_getElem hb, q]
        · exfalso
          have := of_decide_eq_true q
          refine hc u hu b hbi ?_
          rw [List.getElem?_eq_getElem hb, this]
      · rw [List.length_map]; exact Nat.le_trans (List.length_filter_le _ _) (szl (by omega))
      have ef : (inn u.2 (mng (scn t).nm u)).filter (fun _ => false) = [] := List.filter_eq_nil_iff.mpr fun _ _ => by simp
      rw [ef]
      refine s_drop (ev_bm (ev_var rfl ⟨⟨_, .inl ⟨p, rfl, mupd_same⟩⟩, ea_cons ?_⟩))
      refine ev_lcA [6] (fun _ h => h) ([] : List Nat) (fun b => D.int (b : Nat)) (fun b => D.int (b : Nat)) (ei_seq (ev_var rfl ⟨_, .q, rfl, szl (by simp), .q, (fun j b hj => by simp at hj), by simp, .inl ?_⟩))
      refine ea_nil ⟨p, _, rfl, mupd_same, _, _, rfl, .inl rfl, by simp, ?_⟩
      exact ⟨_, _, _, _, rfl, by rw [mupd_mupd]; rfl⟩
  · rintro γ m ⟨c3, c4, c5, c6, rfl, rfl⟩
    refine EVS.freeze 2 rfl mupd_same (by simp) ?_
    rw [mdel_mupd hp]
    walk_at "lve"
    exact k
def NamOk (t : Tr) (xs : List Str) : Prop := xs.length = (scn t).nm.length ∧ (∀ x ∈ xs, OkName x) ∧ NoCatch (scn t) xs
def TmOk (t : Tr) : Prop := OkT t ∧ nodes t ≤ 25 ∧ bins t ≤ 6
def W_is_right (CT : Addr) : Fw := fun ds M P => ∃ (t : Tr) (k : Bool) (xs : List Str), ds = [dTm CT t, .sq k (xs.map D.str)] ∧ TmOk t ∧ NamOk t xs ∧ P (.bl true) M
def N_is_right : List Str := ["term", "names"]
def P_is_right : List Str := ["term", "names"]
theorem sc_is_right : FnScope N_is_right P_is_right (defScope s_is_right) := ⟨rfl, rfl, rfl, by decide +kernel, rfl, by decide +kernel, by decide +kernel⟩
theorem h_is_right {z : Cz} {mg : Str → Option Value} {base : Heap} {CF CT : Addr} (G : Gf z mg CF CT) (Dd : Df z mg "is_right" s_is_right) (H_look_at_names : Has z mg base "look_at_names" P_look_at_names 3 (W_look_at_names CT)) (H_catches_of : Has z mg base "catches_of" P_catches_of 2 (W_catches_of CT)) : Has z mg base "is_right" P_is_right (3 + 1) (W_is_right  CT) := by
  refine okDf Dd sc_is_right (fun _ _ _ _ _ _ us hl => match us, hl with | [_, _], _ => rfl) (fun ds M P hw => ?_) (fun f cdv A outer s H E hr ds M P hw => ?_)
  · obtain ⟨t, k, xs, rfl, _⟩ := hw
    rfl
  obtain ⟨t, kk, xs, rfl, ⟨ho, hn, hb⟩, ⟨hl, hx, hc⟩, k⟩ := hw
  refine ⟨_, (pss_cons (ps_expr (px_call H_look_at_names (hr.mono (by omega)) rfl (pa_cons (pv 0) (pa_cons (pv 1) pa_nil)))) (pss_one (ps_ret (pe_cmpR (zo_eq z hr) (px_call H_catches_of (hr.mono (by omega)) rfl (pa_cons (pv 0) (pa_cons (pv 1) pa_nil))) (pe_lst pa_nil) (nomark _))))), ?_⟩
  have h6 := nmN t
  refine s_seq ?_
  walk_at "lve"
  refine ⟨t, kk, xs, rfl, hl, by omega, hx, ?_⟩
  walk_at "lve"
  refine ⟨t, kk, xs, rfl, ho, hn, hl, hc, ?_⟩
  exact ⟨_, rfl, ⟨0, by decide, fun x hx => nomatch hx⟩, k⟩
def W_look_at_right (CT : Addr) : Fw := fun ds M P => ∃ (t : Tr) (k : Bool) (xs : List Str), ds = [dTm CT t, .sq k (xs.map D.str)] ∧ TmOk t ∧ NamOk t xs ∧ P .non M
def N_look_at_right : List Str := ["term", "names"]
def P_look_at_right : List Str := ["term", "names"]
theorem sc_look_at_right : FnScope N_look_at_right P_look_at_right (defScope s_look_at_right) := ⟨rfl, rfl, rfl, by decide +kernel, rfl, by decide +kernel, by decide +kernel⟩
theorem h_look_at_right {z : Cz} {mg : Str → Option Value} {base : Heap} {CF CT : Addr} (G : Gf z mg CF CT) (Dd : Df z mg "look_at_right" s_look_at_right) (H_look_at_names : Has z mg base "look_at_names" P_look_at_names 3 (W_look_at_names CT)) (H_catches_of : Has z mg base "catches_of" P_catches_of 2 (W_catches_of CT)) : Has z mg base "look_at_right" P_look_at_right (3 + 1) (W_look_at_right  CT) := by
  refine okDf Dd sc_look_at_right (fun _ _ _ _ _ _ us hl => match us, hl with | [_, _], _ => rfl) (fun ds M P hw => ?_) (fun f cdv A outer s H E hr ds M P hw => ?_)
  · obtain ⟨t, k, xs, rfl, _⟩ := hw
    rfl
  obtain ⟨t, kk, xs, rfl, ⟨ho, hn, hb⟩, ⟨hl, hx, hc⟩, k⟩ := hw
  refine ⟨_, (pss_cons (ps_expr (px_call H_look_at_names (hr.mono (by omega)) rfl (pa_cons (pv 0) (pa_cons (pv 1) pa_nil)))) (pss_one (ps_if (pt_cmpR (zo_ne z hr) (px_call H_catches_of (hr.mono (by omega)) rfl (pa_cons (pv 0) (pa_cons (pv 1) pa_nil))) (pe_lst pa_nil) (nomark _)) (pss_one ps_never) pss_nil))), ?_⟩
  have h6 := nmN t
  refine s_seq ?_
  walk_at "lve"
  refine ⟨t, kk, xs, rfl, hl, by omega, hx, ?_⟩
  walk_at "lve"
  refine ⟨t, kk, xs, rfl, ho, hn, hl, hc, ?_⟩
  refine ⟨_, rfl, ⟨0, by decide, fun x hx => nomatch hx⟩, g_bl ⟨(fun q => nomatch q), fun _ => s_next k⟩⟩
end Lv

set_option Elab.async false
set_option linter.all false
set_option maxRecDepth 100000
set_option maxHeartbeats 4000000
set_option pp.maxSteps 400
set_option pp.deepTerms false
namespace Lv
open PySem PySem.Spec PyProof.Rows L2 StX
local macro_rules
  | `(tactic| walk_at "lv1") => `(tactic| with_reducible (first
    | refine s_set ?_ | refine s_ret ?_ | refine s_if ?_ | refine s_drop ?_ | refine s_next ?_ | refine s_par ?_ | refine s_par3 ?_ | refine s_subL ?_ | refine s_unl2 ?_ | refine s_tup2 ?_ | refine eg_unl2 ?_ | refine eg_unl3 ?_ | refine eg_tup2 ?_
    | refine ev_var rfl ?_ | refine ev_int ?_ | refine ev_str ?_ | refine ev_bl ?_ | refine ev_non ?_ | refine ev_ref ?_
    | refine ev_lst0 ?_ | refine ev_eqE ?_ | refine ev_neE ?_ | refine ev_op ?_ | refine ev_un ?_ | refine ev_isiLT ?_ | refine ev_isi ?_ | refine ev_cb ?_ | refine ev_chain ?_ | refine ev_andV ?_ | refine ev_orV ?_ | refine ev_notV ?_ | refine ev_if ?_ | refine ev_tup ?_ | refine ev_call ?_
    | refine et_and ?_ | refine et_or ?_ | refine et_not ?_ | refine et_test ?_ | refine et_b ?_ | refine et_yes ?_
    | refine ea_cons ?_ | refine ea_nil ?_
    | refine g_int2 ?_ | refine g_bl ?_ | refine g_int ?_ | refine g_addI ?_ | refine g_eqI ?_ | refine g_eqSt ?_ | refine g_eqSf (by decide +kernel) ?_ | refine g_eqS ?_ | refine g_eqIS ?_ | refine g_eqSI ?_ | refine g_eqNS ?_ | refine g_isn ?_
    | refine g_par ?_ | refine g_par3 ?_ | refine g_neg ?_
    | refine g_ifT ?_ | refine g_ifNT ?_ | refine g_ifNF ?_ | refine g_ifF ?_ | refine g_ifD ?_ ?_ | refine g_ifDN ?_ ?_
    | refine eg_name ?_ | refine eg_setL ?_))
local macro_rules
  | `(tactic| walk_at "lvM") => `(tactic| first | assumption | exact mupd_same)
local macro_rules
  | `(tactic| walk_at "lvW") => `(tactic| with_unfolding_all rfl)
local macro_rules
  | `(tactic| walk_at "lvA") => `(tactic| first | with_unfolding_all rfl | with_unfolding_all exact atI_nat 0 rfl | with_unfolding_all exact atI_nat 1 rfl)
local macro_rules
  | `(tactic| walk_at "lv2") => `(tactic| with_reducible (first
    | refine ⟨_, _, (by walk_at "lvW"), kb_ii, ?_⟩ | refine ⟨_, _, (by walk_at "lvW"), kb_ib, ?_⟩ | refine ⟨_, _, (by walk_at "lvW"), kb_is, ?_⟩ | refine ⟨_, _, (by walk_at "lvW"), kb_ss, ?_⟩ | refine ⟨_, _, (by walk_at "lvW"), kb_tt, ?_⟩
    | refine .inl ⟨_, _, rfl, IsS.q, ?_⟩ | refine .inl ⟨_, _, rfl, IsS.r (by walk_at "lvM"), ?_⟩ | refine .inl ⟨_, _, rfl, IsS.sc, ?_⟩
    | refine .inl ⟨_, _, IsS.q, (by walk_at "lvA"), ?_⟩ | refine .inl ⟨_, _, IsS.r (by walk_at "lvM"), (by walk_at "lvA"), ?_⟩
    | refine .inl (g_int2 (And.intro (CMul.l (by omega) (by omega)) ?_)) | refine .inl (g_int2 (And.intro (CMul.r (by omega) (by omega)) ?_))
    | refine And.intro (CDiv.mk (by omega) (by omega)) ?_ | refine And.intro (by omega) ?_ | refine And.intro (Nat.le_of_ble_eq_true (by walk_at "lvW")) ?_
    | refine .inl ⟨_, _, rfl, ?_⟩
    | refine .inl ⟨_, rfl, ?_⟩ | refine .inr ⟨_, rfl, ?_⟩
    | refine ⟨_, _, _, _, rfl, (by walk_at "lvM"), rfl, (by walk_at "lvW"), ?_⟩
    | refine ⟨_, _, rfl, IsL.q, ?_⟩
    | refine ⟨_, rfl, .inl ⟨_, _, IsS.q, (by walk_at "lvA"), ?_⟩⟩))
local macro_rules
  | `(tactic| walk_at "lvm") => `(tactic| repeat' (first | walk_at "lv1" | (with_reducible refine s_seq ?_) | walk_at "lv2" | dsimp only))
local macro_rules
  | `(tactic| walk_at "lve") => `(tactic| repeat' (first | walk_at "lv1" | (with_reducible refine ev_lst ?_) | walk_at "lv2" | dsimp only))
local macro_rules
  | `(tactic| walk_at "lv") => `(tactic| repeat' (first | walk_at "lv1" | (with_reducible refine ev_lst ?_) | (with_reducible refine s_seq ?_) | walk_at "lv2" | dsimp only))
local macro_rules
  | `(tactic| walk_at "lve0") => `(tactic| repeat' (first
    | (with_reducible first | refine ev_var rfl ?_ | refine ev_int ?_ | refine ev_str ?_ | refine et_test ?_ | refine ev_eqE ?_ | refine ev_op ?_ | refine g_bl ?_ | refine g_eqI ?_ | refine g_eqSt ?_ | refine g_eqSf (by decide +kernel) ?_ | refine g_eqS ?_ | refine g_int ?_ | refine g_ifT ?_ | refine g_ifF ?_ | refine g_ifD ?_ ?_) | walk_at "lv2" | dsimp only))
local macro_rules
  | `(tactic| walk_at "lvx") => `(tactic| repeat' (first | (refine fun hx => absurd hx ?_; (with_reducible fail_if_success assumption); simp; done) | (refine fun _ => ?_; walk_at "lv")))
def dWs (k : Bool) (W : List (Option Str)) : D := .sq k (W.map dW)
def dVs (k : Bool) (V : List Int) : D := .sq k (V.map D.int)
theorem dW_eq (a b : Option Str) : EqIs (dW a) (dW b) (decide (a = b)) := by
  cases a with
  | none => cases b with
    | none => exact .sc rfl rfl rfl (by show decide (V.non = V.non) = _; simp)
    | some t => exact .sc rfl rfl rfl (by show decide (V.non = V.str t) = _; simp)
  | some s => cases b with
    | none => exact .sc rfl rfl rfl (by show decide (V.str s = V.non) = _; simp)
    | some t => exact .sc rfl rfl rfl (by
        show decide (V.str s = V.str t) = _
        by_cases e : s = t
        · subst e; simp
        · rw [decide_eq_false (fun q => e (V.str.inj q)), decide_eq_false (fun q => e (Option.some.inj q))])
theorem isNon_dW (w : Option Str) : isNonD (dW w) = w.isNone := by cases w <;> rfl
/-- [b for b, wish in enumerate(wishes) if wish is not None and ..] -/
theorem ev_sel {z : Cz} {Γ : Gam} {M : Mem} {P : D → Mem → Prop} {te : TE} {tt : TT} {vs : List Nat} {i j : Nat} {k : Bool} {W : List (Option Str)} (c : Nat → Str → Bool) (hi : i ∈ vs) (hj : j ∈ vs) (hz : W.length ≤ 1000)
    (hw : EV z te Γ M fun d M1 => d = dWs k W ∧ M1 = M) (h0 : ∀ x y : D, (((wipeG Γ vs).set i (some x)).set j (some y))[j]? = some (some y)) (h1 : ∀ x y : D, (((wipeG Γ vs).set i (some x)).set j (some y))[i]? = some (some x))
    (hc : ∀ (b : Nat) (s : Str), W[b]? = some (some s) → ET z tt (((wipeG Γ vs).set i (some (.int (b : Nat)))).set j (some (.str s))) M fun q M1 => q = c b s ∧ M1 = M)
    (n : NewL ((sel W c).map fun b => D.int (b : Nat)) M P) :
    EV z (tLc (iEnumU z.K (tCons te tNil)) (gTup z.K 2 (gCons (gName i) (gCons (gName j) gNil))) (tAnd (tTest (tOp rNotNU (tVar j) (tC .non))) tt) (tVar i) vs) Γ M P := by
  refine ev_lcX [i, j] (fun x h => by simp at h; rcases h with rfl | rfl <;> assumption) W.zipIdx (fun p => .sq false [.int (p.2 : Nat), dW p.1]) (fun p => match p.1 with | some s => c p.2 s | none => false) (fun p => .int (p.2 : Nat)) (ei_enum (ea_cons (hw.imp fun d M1 ⟨e1, e2⟩ => ea_nil ?_)))
  subst e1 e2
  refine ⟨_, _, rfl, .q, pairs_map W dW, by rw [List.length_zipIdx]; exact szl hz, .q, ?_, ?_⟩
  · intro a p hp
    rw [List.getElem?_zipIdx] at hp
    cases q : W[a]? with
    | none => rw [q] at hp; cases hp
    | some w =>
      rw [q] at hp
      simp only [Option.map_some, Option.some.injEq] at hp
      subst hp
      refine eg_tup2 ⟨rfl, et_and (et_test (ev_op (ev_var (h0 _ _) (ev_non ⟨rfl, _, rfl, fun hb => ?_, fun hb => ?_⟩))))⟩
      · rw [isNon_dW] at hb
        cases w with
        | none => cases hb
        | some s =>
          have := hc a s q
          rw [Nat.zero_add]
          exact this.imp fun b M1 ⟨e1, e2⟩ => ⟨e1, e2, fun _ => ev_var (h1 _ _) ⟨rfl, rfl⟩⟩
      · rw [isNon_dW] at hb
        cases w with
        | none => exact ⟨rfl, rfl, fun q => nomatch q⟩
        | some s => cases hb
  · unfold sel at n
    rw [List.map_map] at n
    exact n
def W_kept_binders : Fw := fun ds M P => ∃ (k k' : Bool) (W : List (Option Str)) (xs : List Str), ds = [dWs k W, .sq k' (xs.map D.str)] ∧ W.length = xs.length ∧ W.length ≤ 100 ∧ NewL ((keptB W xs).map fun b => D.int (b : Nat)) M P
def N_kept_binders : List Str := ["wishes", "names", "binder", "wish"]
def P_kept_binders : List Str := ["wishes", "names"]
theorem sc_kept_binders : FnScope N_kept_binders P_kept_binders (defScope s_kept_binders) := ⟨rfl, rfl, rfl, by decide +kernel, rfl, by decide +kernel, by decide +kernel⟩
theorem h_kept_binders {z : Cz} {mg : Str → Option Value} {base : Heap} {CF CT : Addr} (G : Gf z mg CF CT) (Dd : Df z mg "kept_binders" s_kept_binders)  : Has z mg base "kept_binders" P_kept_binders (0 + 1) (W_kept_binders) := by
  refine okDf Dd sc_kept_binders (fun _ _ _ _ _ _ us hl => match us, hl with | [_, _], _ => rfl) (fun ds M P hw => ?_) (fun f cdv A outer s H E hr ds M P hw => ?_)
  · obtain ⟨k, k', W, xs, rfl, _⟩ := hw
    rfl
  obtain ⟨k, k', W, xs, rfl, hl, hz, n⟩ := hw
  refine ⟨_, (pss_one (ps_ret (pe_lc (own := [("binder", 2), ("wish", 3)]) rfl sc_kept_binders.nd (zi_enum z G.enumerate (pa_cons (pv 0) pa_nil)) (blkOk_by (N := N_kept_binders) (sc := defScope s_kept_binders) (by decide +kernel)) (fun _ _ _ _ _ => (zg_tup (n := 2) z (pgs_cons (pg_name (i := 2) sc_kept_binders.nd rfl (.inl rfl)) (pgs_cons (pg_name (i := 3) sc_kept_binders.nd rfl (.inl rfl)) pgs_nil)))) (fun _ _ _ _ _ => (pts_one (PW.pt (pw_and (pt_cmpR ox_notN (pv 3) pe_non (nomark _)) (pw_and1 (pt_cmpR (zo_eq z hr) (pv 3) (zx_ix z (pv 1) (pv 2)) (nomark _))))))) (fun _ _ _ _ _ => (pv 2))))), ?_⟩
  refine s_ret (ev_sel (k := k) (W := W) (fun b s => decide (some s = xs[b]?)) (by simp) (by simp) (by omega) (ev_var rfl ⟨rfl, rfl⟩) (fun x y => rfl) (fun x y => rfl) (fun b s hb => ?_) n)
  have hb' : b < xs.length := by rw [← hl]; exact (List.getElem?_eq_some_iff.mp hb).1
  refine et_test (ev_op (ev_var rfl (ev_op (ev_var rfl (ev_var rfl ⟨_, rfl, .inl ⟨_, .str xs[b], .q, atI_nat b (by rw [List.getElem?_map, List.getElem?_eq_getElem hb']; rfl), ?_⟩⟩)))))
  walk_at "lve"
  refine ⟨?_, rfl⟩
  rw [List.getElem?_eq_getElem hb']
  simp
def WOk (t : Tr) (W : List (Option Str)) : Prop := W.length = (scn t).nm.length ∧ ∀ s, some s ∈ W → OkName s
def VOk (t : Tr) (V : List Int) : Prop := V.length = (scn t).nm.length ∧ ∀ v ∈ V, 0 ≤ v ∧ v ≤ 1000
def W_are_such_wishes (CT : Addr) : Fw := fun ds M P => ∃ (t : Tr) (k : Bool) (W : List (Option Str)), ds = [dTm CT t, dWs k W] ∧ TmOk t ∧ WOk t W ∧ P (.bl true) M
def N_are_such_wishes : List Str := ["term", "value", "one"]
def P_are_such_wishes : List Str := ["term", "value"]
theorem sc_are_such_wishes : FnScope N_are_such_wishes P_are_such_wishes (defScope s_are_such_wishes) := ⟨rfl, rfl, rfl, by decide +kernel, rfl, by decide +kernel, by decide +kernel⟩
theorem h_are_such_wishes {z : Cz} {mg : Str → Option Value} {base : Heap} {CF CT : Addr} (G : Gf z mg CF CT) (Dd : Df z mg "are_such_wishes" s_are_such_wishes) (H_is_line : Has z mg base "is_line" P_is_line 1 W_is_line) (H_is_name : Has z mg base "is_name" P_is_name 1 W_is_name) : Has z mg base "are_such_wishes" P_are_such_wishes (1 + 1) (W_are_such_wishes  CT) := by
  refine okDf Dd sc_are_such_wishes (fun _ _ _ _ _ _ us hl => match us, hl with | [_, _], _ => rfl) (fun ds M P hw => ?_) (fun f cdv A outer s H E hr ds M P hw => ?_)
  · obtain ⟨t, k, xs, rfl, _⟩ := hw
    rfl
  obtain ⟨t, kk, xs, rfl, ⟨ho, hn, hb6⟩, ⟨hl, hx⟩, k⟩ := hw
  refine ⟨_, (pss_cons (ps_if (PW.pt (pw_or (pt_not (pt_val (px_call H_is_line (hr.mono (by omega)) rfl (pa_cons (pv 1) pa_nil)))) (pw_or1 (pt_cmpR (zo_ne z hr) (pe_callB (zc_len z) rfl G.len boot_len (pa_cons (pv 1) pa_nil)) (pe_callB (zc_len z) rfl G.len boot_len (pa_cons (zx_fld z (pv 0)) pa_nil)) (nomark _))))) (pss_one (ps_ret pe_bl)) pss_nil) (pss_one (ps_ret (pe_callB (zc_all z) rfl G.all boot_all (pa_cons (pe_lc (own := [("one", 2)]) rfl sc_are_such_wishes.nd (zi_seq z (pv 1)) (blkOk_by (N := N_are_such_wishes) (sc := defScope s_are_such_wishes) (by decide +kernel)) (fun _ _ _ _ _ => (pg_name (i := 2) sc_are_such_wishes.nd rfl (.inl rfl))) (fun _ _ _ _ _ => pts_nil) (fun _ _ _ _ _ => (pe_or (pe_cmpR ox_isN (pv 2) pe_non (nomark _)) (pe_one (px_call H_is_name (hr.mono (by omega)) rfl (pa_cons (pv 2) pa_nil)))))) pa_nil))))), ?_⟩
  have h6 := nmN t
  unfold dWs
  refine s_seq ?_
  walk_at "lve"
  refine ⟨kk, _, rfl, ?_⟩
  walk_at "lve"
  refine ev_fldO rfl G.cT (G.nT "own_names" (by simp)) rfl ?_
  walk_at "lve"
  · intro hb
    rw [List.length_map, List.length_map, hl] at hb; simp at hb
  intro _
  walk_at "lve"
  refine ev_lcA [2] (fun _ h => h) xs dW (fun _ => .bl true) (ei_seq (ev_var rfl ⟨_, .q, rfl, szl (by omega), .q, ?_, ?_, .inl ?_⟩))
  · intro i x hxi
    walk_at "lve"
    refine ⟨rfl, ?_⟩
    refine ev_orV (ev_op (ev_var rfl (ev_non ⟨rfl, _, rfl, fun hb => ⟨rfl, rfl⟩, fun hb => ?_⟩)))
    rw [isNon_dW] at hb
    cases x with
    | none => cases hb
    | some s => exact ev_call (ea_cons (ev_var rfl (ea_nil ⟨s, rfl, hx s (List.mem_of_getElem? hxi), rfl, rfl⟩)))
  · rw [List.length_map]; exact szl (by omega)
  walk_at "lve"
  refine ⟨_, xs.map fun _ => true, rfl, .inl (by rw [List.map_map]; rfl), ?_⟩
  have : (xs.map fun _ => true).all id = true := by rw [List.all_map, List.all_eq_true]; intro x _; rfl
  rw [this]
  exact k
def W_are_wishes (CT : Addr) : Fw := W_are_such_wishes CT
def N_are_wishes : List Str := ["term", "value"]
def P_are_wishes : List Str := ["term", "value"]
theorem sc_are_wishes : FnScope N_are_wishes P_are_wishes (defScope s_are_wishes) := ⟨rfl, rfl, rfl, by decide +kernel, rfl, by decide +kernel, by decide +kernel⟩
theorem h_are_wishes {z : Cz} {mg : Str → Option Value} {base : Heap} {CF CT : Addr} (G : Gf z mg CF CT) (Dd : Df z mg "are_wishes" s_are_wishes) (H_look_at_term : Has z mg base "look_at_term" P_look_at_term 1 (W_look_at_term CT)) (H_are_such_wishes : Has z mg base "are_such_wishes" P_are_such_wishes 2 (W_are_such_wishes CT)) : Has z mg base "are_wishes" P_are_wishes (2 + 1) (W_are_wishes  CT) := by
  refine okDf Dd sc_are_wishes (fun _ _ _ _ _ _ us hl => match us, hl with | [_, _], _ => rfl) (fun ds M P hw => ?_) (fun f cdv A outer s H E hr ds M P hw => ?_)
  · obtain ⟨t, k, xs, rfl, _⟩ := hw
    rfl
  obtain ⟨t, kk, xs, rfl, ht, hw, k⟩ := hw
  refine ⟨_, (pss_cons (ps_expr (px_call H_look_at_term (hr.mono (by omega)) rfl (pa_cons (pv 0) pa_nil))) (pss_one (ps_ret (px_call H_are_such_wishes (hr.mono (by omega)) rfl (pa_cons (pv 0) (pa_cons (pv 1) pa_nil)))))), ?_⟩
  refine s_seq (s_drop (ev_call (ea_cons (ev_var rfl (ea_nil ⟨t, rfl, ?_⟩)))))
  exact s_ret (ev_call (ea_cons (ev_var rfl (ea_cons (ev_var rfl (ea_nil ⟨t, kk, xs, rfl, ht, hw, k⟩))))))
def W_are_such_weights (CT : Addr) : Fw := fun ds M P => ∃ (t : Tr) (k : Bool) (W : List Int), ds = [dTm CT t, dVs k W] ∧ TmOk t ∧ VOk t W ∧ P (.bl true) M
def N_are_such_weights : List Str := ["term", "value", "one"]
def P_are_such_weights : List Str := ["term", "value"]
theorem sc_are_such_weights : FnScope N_are_such_weights P_are_such_weights (defScope s_are_such_weights) := ⟨rfl, rfl, rfl, by decide +kernel, rfl, by decide +kernel, by decide +kernel⟩
theorem h_are_such_weights {z : Cz} {mg : Str → Option Value} {base : Heap} {CF CT : Addr} (G : Gf z mg CF CT) (Dd : Df z mg "are_such_weights" s_are_such_weights) (H_is_line : Has z mg base "is_line" P_is_line 1 W_is_line) (H_is_number : Has z mg base "is_number" P_is_number 2 W_is_number) : Has z mg base "are_such_weights" P_are_such_weights (2 + 1) (W_are_such_weights  CT) := by
  refine okDf Dd sc_are_such_weights (fun _ _ _ _ _ _ us hl => match us, hl with | [_, _], _ => rfl) (fun ds M P hw => ?_) (fun f cdv A outer s H E hr ds M P hw => ?_)
  · obtain ⟨t, k, xs, rfl, _⟩ := hw
    rfl
  obtain ⟨t, kk, xs, rfl, ⟨ho, hn, hb6⟩, ⟨hl, hx⟩, k⟩ := hw
  refine ⟨_, (pss_cons (ps_if (PW.pt (pw_or (pt_not (pt_val (px_call H_is_line (hr.mono (by omega)) rfl (pa_cons (pv 1) pa_nil)))) (pw_or1 (pt_cmpR (zo_ne z hr) (pe_callB (zc_len z) rfl G.len boot_len (pa_cons (pv 1) pa_nil)) (pe_callB (zc_len z) rfl G.len boot_len (pa_cons (zx_fld z (pv 0)) pa_nil)) (nomark _))))) (pss_one (ps_ret pe_bl)) pss_nil) (pss_one (ps_ret (pe_callB (zc_all z) rfl G.all boot_all (pa_cons (pe_lc (own := [("one", 2)]) rfl sc_are_such_weights.nd (zi_seq z (pv 1)) (blkOk_by (N := N_are_such_weights) (sc := defScope s_are_such_weights) (by decide +kernel)) (fun _ _ _ _ _ => (pg_name (i := 2) sc_are_such_weights.nd rfl (.inl rfl))) (fun _ _ _ _ _ => pts_nil) (fun _ _ _ _ _ => (px_call H_is_number (hr.mono (by omega)) rfl (pa_cons (pv 2) (pa_cons pe_int (pa_cons (px_gint G.mweight rfl) pa_nil)))))) pa_nil))))), ?_⟩
  have h6 := nmN t
  unfold dVs
  refine s_seq ?_
  walk_at "lve"
  refine ⟨kk, _, rfl, ?_⟩
  walk_at "lve"
  refine ev_fldO rfl G.cT (G.nT "own_names" (by simp)) rfl ?_
  walk_at "lve"
  · intro hb
    rw [List.length_map, List.length_map, hl] at hb; simp at hb
  intro _
  walk_at "lve"
  refine ev_lcA [2] (fun _ h => h) xs D.int (fun _ => .bl true) (ei_seq (ev_var rfl ⟨_, .q, rfl, szl (by omega), .q, ?_, ?_, .inl ?_⟩))
  · intro i x hxi
    walk_at "lve"
    refine ⟨rfl, ?_⟩
    have := hx x (List.mem_of_getElem? hxi)
    walk_at "lve"
    exact ⟨x, 0, 1000, rfl, this.1, this.2, rfl, rfl⟩
  · rw [List.length_map]; exact szl (by omega)
  walk_at "lve"
  refine ⟨_, xs.map fun _ => true, rfl, .inl (by rw [List.map_map]; rfl), ?_⟩
  have : (xs.map fun _ => true).all id = true := by rw [List.all_map, List.all_eq_true]; intro x _; rfl
  rw [this]
  exact k
def W_are_weights (CT : Addr) : Fw := W_are_such_weights CT
def N_are_weights : List Str := ["term", "value"]
def P_are_weights : List Str := ["term", "value"]
theorem sc_are_weights : FnScope N_are_weights P_are_weights (defScope s_are_weights) := ⟨rfl, rfl, rfl, by decide +kernel, rfl, by decide +kernel, by decide +kernel⟩
theorem h_are_weights {z : Cz} {mg : Str → Option Value} {base : Heap} {CF CT : Addr} (G : Gf z mg CF CT) (Dd : Df z mg "are_weights" s_are_weights) (H_look_at_term : Has z mg base "look_at_term" P_look_at_term 1 (W_look_at_term CT)) (H_are_such_weights : Has z mg base "are_such_weights" P_are_such_weights 3 (W_are_such_weights CT)) : Has z mg base "are_weights" P_are_weights (3 + 1) (W_are_weights  CT) := by
  refine okDf Dd sc_are_weights (fun _ _ _ _ _ _ us hl => match us, hl with | [_, _], _ => rfl) (fun ds M P hw => ?_) (fun f cdv A outer s H E hr ds M P hw => ?_)
  · obtain ⟨t, k, xs, rfl, _⟩ := hw
    rfl
  obtain ⟨t, kk, xs, rfl, ht, hw, k⟩ := hw
  refine ⟨_, (pss_cons (ps_expr (px_call H_look_at_term (hr.mono (by omega)) rfl (pa_cons (pv 0) pa_nil))) (pss_one (ps_ret (px_call H_are_such_weights (hr.mono (by omega)) rfl (pa_cons (pv 0) (pa_cons (pv 1) pa_nil)))))), ?_⟩
  refine s_seq (s_drop (ev_call (ea_cons (ev_var rfl (ea_nil ⟨t, rfl, ?_⟩)))))
  exact s_ret (ev_call (ea_cons (ev_var rfl (ea_cons (ev_var rfl (ea_nil ⟨t, kk, xs, rfl, ht, hw, k⟩))))))
def W_look_at_wishes (CT : Addr) : Fw := fun ds M P => ∃ (t : Tr) (k : Bool) (W : List (Option Str)), ds = [dTm CT t, dWs k W] ∧ TmOk t ∧ WOk t W ∧ P .non M
def N_look_at_wishes : List Str := ["term", "wishes"]
def P_look_at_wishes : List Str := ["term", "wishes"]
theorem sc_look_at_wishes : FnScope N_look_at_wishes P_look_at_wishes (defScope s_look_at_wishes) := ⟨rfl, rfl, rfl, by decide +kernel, rfl, by decide +kernel, by decide +kernel⟩
theorem h_look_at_wishes {z : Cz} {mg : Str → Option Value} {base : Heap} {CF CT : Addr} (G : Gf z mg CF CT) (Dd : Df z mg "look_at_wishes" s_look_at_wishes) (H_look_at_term : Has z mg base "look_at_term" P_look_at_term 1 (W_look_at_term CT)) (H_are_such_wishes : Has z mg base "are_such_wishes" P_are_such_wishes 2 (W_are_such_wishes CT)) : Has z mg base "look_at_wishes" P_look_at_wishes (2 + 1) (W_look_at_wishes  CT) := by
  refine okDf Dd sc_look_at_wishes (fun _ _ _ _ _ _ us hl => match us, hl with | [_, _], _ => rfl) (fun ds M P hw => ?_) (fun f cdv A outer s H E hr ds M P hw => ?_)
  · obtain ⟨t, k, xs, rfl, _⟩ := hw
    rfl
  obtain ⟨t, kk, xs, rfl, ht, hw, k⟩ := hw
  refine ⟨_, (pss_cons (ps_expr (px_call H_look_at_term (hr.mono (by omega)) rfl (pa_cons (pv 0) pa_nil))) (pss_one (ps_if (pt_not (pt_val (px_call H_are_such_wishes (hr.mono (by omega)) rfl (pa_cons (pv 0) (pa_cons (pv 1) pa_nil))))) (pss_one ps_never) pss_nil))), ?_⟩
  refine s_seq (s_drop (ev_call (ea_cons (ev_var rfl (ea_nil ⟨t, rfl, ?_⟩)))))
  refine s_if (et_not (et_b (ev_call (ea_cons (ev_var rfl (ea_cons (ev_var rfl (ea_nil ⟨t, kk, xs, rfl, ht, hw, ?_⟩))))))))
  exact ⟨true, rfl, (fun q => nomatch q), fun _ => s_next k⟩
def W_look_at_both (CT : Addr) : Fw := fun ds M P => ∃ (t : Tr) (k k' : Bool) (W : List (Option Str)) (V : List Int), ds = [dTm CT t, dWs k W, dVs k' V] ∧ TmOk t ∧ WOk t W ∧ VOk t V ∧ P .non M
def N_look_at_both : List Str := ["term", "wishes", "weights"]
def P_look_at_both : List Str := ["term", "wishes", "weights"]
theorem sc_look_at_both : FnScope N_look_at_both P_look_at_both (defScope s_look_at_both) := ⟨rfl, rfl, rfl, by decide +kernel, rfl, by decide +kernel, by decide +kernel⟩
theorem h_look_at_both {z : Cz} {mg : Str → Option Value} {base : Heap} {CF CT : Addr} (G : Gf z mg CF CT) (Dd : Df z mg "look_at_both" s_look_at_both) (H_look_at_wishes : Has z mg base "look_at_wishes" P_look_at_wishes 3 (W_look_at_wishes CT)) (H_are_such_weights : Has z mg base "are_such_weights" P_are_such_weights 3 (W_are_such_weights CT)) : Has z mg base "look_at_both" P_look_at_both (3 + 1) (W_look_at_both  CT) := by
  refine okDf Dd sc_look_at_both (fun _ _ _ _ _ _ us hl => match us, hl with | [_, _, _], _ => rfl) (fun ds M P hw => ?_) (fun f cdv A outer s H E hr ds M P hw => ?_)
  · obtain ⟨t, k, k', xs, V, rfl, _⟩ := hw
    rfl
  obtain ⟨t, kk, k', xs, V, rfl, ht, hw, hv, k⟩ := hw
  refine ⟨_, (pss_cons (ps_expr (px_call H_look_at_wishes (hr.mono (by omega)) rfl (pa_cons (pv 0) (pa_cons (pv 1) pa_nil)))) (pss_one (ps_if (pt_not (pt_val (px_call H_are_such_weights (hr.mono (by omega)) rfl (pa_cons (pv 0) (pa_cons (pv 2) pa_nil))))) (pss_one ps_never) pss_nil))), ?_⟩
  refine s_seq (s_drop (ev_call (ea_cons (ev_var rfl (ea_cons (ev_var rfl (ea_nil ⟨t, kk, xs, rfl, ht, hw, ?_⟩)))))))
  refine s_if (et_not (et_b (ev_call (ea_cons (ev_var rfl (ea_cons (ev_var rfl (ea_nil ⟨t, k', V, rfl, ht, hv, ?_⟩))))))))
  exact ⟨true, rfl, (fun q => nomatch q), fun _ => s_next k⟩
def W_wishing : Fw := fun ds M P => ∃ (k : Bool) (lv : Lvs) (W : List (Option Str)), ds = [dLv lv, dWs k W] ∧ lv.length = W.length ∧ W.length ≤ 100 ∧ P (dNat (wishers lv W)) M
theorem lv_at {lv : Lvs} {b : Nat} (h : b < lv.length) : ((lv.map fun ks => D.sq true (ks.map kD)))[b]? = some (.sq true ((lv.getD b []).map kD)) := by
  rw [List.getElem?_map, List.getElem?_eq_getElem h, List.getD_eq_getElem?_getD, List.getElem?_eq_getElem h]
  rfl
def N_wishing : List Str := ["live", "wishes", "binder", "wish"]
def P_wishing : List Str := ["live", "wishes"]
theorem sc_wishing : FnScope N_wishing P_wishing (defScope s_wishing) := ⟨rfl, rfl, rfl, by decide +kernel, rfl, by decide +kernel, by decide +kernel⟩
theorem h_wishing {z : Cz} {mg : Str → Option Value} {base : Heap} {CF CT : Addr} (G : Gf z mg CF CT) (Dd : Df z mg "wishing" s_wishing)  : Has z mg base "wishing" P_wishing (0 + 1) (W_wishing) := by
  refine okDf Dd sc_wishing (fun _ _ _ _ _ _ us hl => match us, hl with | [_, _], _ => rfl) (fun ds M P hw => ?_) (fun f cdv A outer s H E hr ds M P hw => ?_)
  · obtain ⟨k, lv, W, rfl, _⟩ := hw
    rfl
  obtain ⟨kk, lv, W, rfl, hl, hz, k⟩ := hw
  refine ⟨_, (pss_one (ps_ret (pe_lc (own := [("binder", 2), ("wish", 3)]) rfl sc_wishing.nd (zi_enum z G.enumerate (pa_cons (pv 1) pa_nil)) (blkOk_by (N := N_wishing) (sc := defScope s_wishing) (by decide +kernel)) (fun _ _ _ _ _ => (zg_tup (n := 2) z (pgs_cons (pg_name (i := 2) sc_wishing.nd rfl (.inl rfl)) (pgs_cons (pg_name (i := 3) sc_wishing.nd rfl (.inl rfl)) pgs_nil)))) (fun _ _ _ _ _ => (pts_one (PW.pt (pw_and (pt_cmpR ox_notN (pv 3) pe_non (nomark _)) (pw_and1 (pt_cmpR (zo_notIn z) (pv 3) (zx_ix z (pv 0) (pv 2)) (by with_unfolding_all rfl))))))) (fun _ _ _ _ _ => (pv 2))))), ?_⟩
  refine s_ret (ev_sel (k := kk) (W := W) (fun b s => !decide (Sum.inr s ∈ lv.getD b [])) (by simp) (by simp) (by omega) (ev_var rfl ⟨rfl, rfl⟩) (fun x y => rfl) (fun x y => rfl) (fun b s hb => ?_) ⟨?_, .inl k⟩)
  · have hb' : b < lv.length := by rw [hl]; exact (List.getElem?_eq_some_iff.mp hb).1
    refine et_test (ev_op (ev_var rfl (ev_op (ev_var rfl (ev_var rfl ⟨_, rfl, .inl ⟨_, _, .q, atI_nat b (lv_at hb'), ?_⟩⟩)))))
    refine ⟨_, .q, rfl, flat_key _, ?_⟩
    have e := inD_key (x := .inr s) (xs := lv.getD b [])
    refine ⟨_, rfl, ?_, rfl⟩
    rw [← e]
    rfl
  · rw [List.length_map]; exact Nat.le_trans (sel_len _ _) (szl (by omega))
def W_mates_of : Fw := fun ds M P => ∃ (k : Bool) (lv : Lvs) (W : List (Option Str)) (b : Nat) (some : List Nat), ds = [dLv lv, dWs k W, .int (b : Nat), dNat some] ∧ lv.length = W.length ∧ some.length ≤ 1000 ∧ (∀ c ∈ some, c < W.length) ∧ b < W.length ∧ P (dNat (matesOf lv W b some)) M
theorem W_at {k : Bool} {W : List (Option Str)} {b : Nat} (h : b < W.length) : (W.map dW)[b]? = some (dW (W.getD b none)) := by
  rw [List.getElem?_map, List.getElem?_eq_getElem h, List.getD_eq_getElem?_getD, List.getElem?_eq_getElem h]
  rfl
def N_mates_of : List Str := ["live", "wishes", "binder", "some", "one"]
def P_mates_of : List Str := ["live", "wishes", "binder", "some"]
theorem sc_mates_of : FnScope N_mates_of P_mates_of (defScope s_mates_of) := ⟨rfl, rfl, rfl, by decide +kernel, rfl, by decide +kernel, by decide +kernel⟩
theorem h_mates_of {z : Cz} {mg : Str → Option Value} {base : Heap} {CF CT : Addr} (G : Gf z mg CF CT) (Dd : Df z mg "mates_of" s_mates_of)  : Has z mg base "mates_of" P_mates_of (0 + 1) (W_mates_of) := by
  refine okDf Dd sc_mates_of (fun _ _ _ _ _ _ us hl => match us, hl with | [_, _, _, _], _ => rfl) (fun ds M P hw => ?_) (fun f cdv A outer s H E hr ds M P hw => ?_)
  · obtain ⟨k, lv, W, b, some, rfl, _⟩ := hw
    rfl
  obtain ⟨kk, lv, W, b, sm, rfl, hl, hz, hs, hb, k⟩ := hw
  refine ⟨_, (pss_one (ps_ret (pe_lc (own := [("one", 4)]) rfl sc_mates_of.nd (zi_seq z (pv 3)) (blkOk_by (N := N_mates_of) (sc := defScope s_mates_of) (by decide +kernel)) (fun _ _ _ _ _ => (pg_name (i := 4) sc_mates_of.nd rfl (.inl rfl))) (fun _ _ _ _ _ => (pts_one (PW.pt (pw_and (pt_cmpR (zo_ne z hr) (pv 4) (pv 2) (nomark _)) (pw_and (pt_cmpR (zo_eq z hr) (zx_ix z (pv 1) (pv 4)) (zx_ix z (pv 1) (pv 2)) (nomark _)) (pw_and1 (pt_cmpR (zo_in z) (pv 2) (zx_ix z (pv 0) (pv 4)) (by with_unfolding_all rfl)))))))) (fun _ _ _ _ _ => (pv 4))))), ?_⟩
  refine s_ret (ev_lcX [4] (fun _ h => h) sm (fun c => D.int (c : Nat)) (fun c => decide (c ≠ b) && (decide (W.getD c none = W.getD b none) && decide (Sum.inl (b : Int) ∈ lv.getD c []))) (fun c => D.int (c : Nat)) (ei_seq (ev_var rfl ⟨_, .q, rfl, szl hz, .q, ?_, ?_, .inl k⟩)))
  · intro i c hc
    have hcm := hs c (List.mem_of_getElem? hc)
    refine eg_name ⟨rfl, et_and (et_test (ev_op (ev_var rfl (ev_var rfl (g_eqI ⟨_, rfl, fun h1 => ?_, fun h1 => ?_⟩)))))⟩
    · have h1' : c ≠ b := by intro q; subst q; simp at h1
      refine et_and (et_test (ev_op (ev_op (ev_var rfl (ev_var rfl ⟨_, rfl, .inl ⟨_, _, .q, atI_nat c (W_at (k := kk) hcm), ?_⟩⟩)))))
      refine ev_op (ev_var rfl (ev_var rfl ⟨_, rfl, .inl ⟨_, _, .q, atI_nat b (W_at (k := kk) hb), ?_⟩⟩))
      refine ⟨_, dW_eq _ _, _, rfl, fun h2 => ?_, fun h2 => ?_⟩
      · refine et_test (ev_op (ev_var rfl (ev_op (ev_var rfl (ev_var rfl ⟨_, rfl, .inl ⟨_, _, .q, atI_nat c (lv_at (by omega)), ?_⟩⟩)))))
        refine ⟨_, .q, rfl, flat_key _, ?_⟩
        have e := inD_key (x := .inl (b : Int)) (xs := lv.getD c [])
        refine ⟨_, rfl, ?_, rfl, fun _ => ev_var rfl ⟨rfl, rfl⟩⟩
        rw [decide_eq_true h1', h2, Bool.true_and, Bool.true_and, ← e]
        rfl
      · refine ⟨?_, rfl, fun q => nomatch q⟩
        rw [h2, Bool.false_and, Bool.and_false]
    · have h1' : c = b := by
        have : ¬ ((c : Int) ≠ (b : Int)) := by intro q; rw [decide_eq_false q] at h1; simp at h1
        omega
      refine ⟨?_, rfl, fun q => nomatch q⟩
      rw [h1']; simp
  · rw [List.length_map]; exact Nat.le_trans (List.length_filter_le _ _) (szl hz)
end Lv

set_option Elab.async false
set_option linter.all false
set_option maxRecDepth 100000
set_option maxHeartbeats 4000000
set_option pp.maxSteps 400
set_option pp.deepTerms false
namespace Lv
open PySem PySem.Spec PyProof.Rows L2 StX
local macro_rules
  | `(tactic| walk_at "lv1") => `(tactic| with_reducible (first
    | refine s_set ?_ | refine s_ret ?_ | refine s_if ?_ | refine s_drop ?_ | refine s_next ?_ | refine s_par ?_ | refine s_par3 ?_ | refine s_subL ?_ | refine s_unl2 ?_ | refine s_tup2 ?_ | refine eg_unl2 ?_ | refine eg_unl3 ?_ | refine eg_tup2 ?_
    | refine ev_var rfl ?_ | refine ev_int ?_ | refine ev_str ?_ | refine ev_bl ?_ | refine ev_non ?_ | refine ev_ref ?_
    | refine ev_lst0 ?_ | refine ev_eqE ?_ | refine ev_neE ?_ | refine ev_op ?_ | refine ev_un ?_ | refine ev_isiLT ?_ | refine ev_isi ?_ | refine ev_cb ?_ | refine ev_chain ?_ | refine ev_andV ?_ | refine ev_orV ?_ | refine ev_notV ?_ | refine ev_if ?_ | refine ev_tup ?_ | refine ev_call ?_
    | refine et_and ?_ | refine et_or ?_ | refine et_not ?_ | refine et_test ?_ | refine et_b ?_ | refine et_yes ?_
    | refine ea_cons ?_ | refine ea_nil ?_
    | refine g_int2 ?_ | refine g_bl ?_ | refine g_int ?_ | refine g_addI ?_ | refine g_eqI ?_ | refine g_eqSt ?_ | refine g_eqSf (by decide +kernel) ?_ | refine g_eqS ?_ | refine g_eqIS ?_ | refine g_eqSI ?_ | refine g_eqNS ?_ | refine g_isn ?_
    | refine g_par ?_ | refine g_par3 ?_ | refine g_neg ?_
    | refine g_ifT ?_ | refine g_ifNT ?_ | refine g_ifNF ?_ | refine g_ifF ?_ | refine g_ifD ?_ ?_ | refine g_ifDN ?_ ?_
    | refine eg_name ?_ | refine eg_setL ?_))
local macro_rules
  | `(tactic| walk_at "lvM") => `(tactic| first | assumption | exact mupd_same)
local macro_rules
  | `(tactic| walk_at "lvW") => `(tactic| with_unfolding_all rfl)
local macro_rules
  | `(tactic| walk_at "lvA") => `(tactic| first | with_unfolding_all rfl | with_unfolding_all exact atI_nat 0 rfl | with_unfolding_all exact atI_nat 1 rfl)
local macro_rules
  | `(tactic| walk_at "lv2") => `(tactic| with_reducible (first
    | refine ⟨_, _, (by walk_at "lvW"), kb_ii, ?_⟩ | refine ⟨_, _, (by walk_at "lvW"), kb_ib, ?_⟩ | refine ⟨_, _, (by walk_at "lvW"), kb_is, ?_⟩ | refine ⟨_, _, (by walk_at "lvW"), kb_ss, ?_⟩ | refine ⟨_, _, (by walk_at "lvW"), kb_tt, ?_⟩
    | refine .inl ⟨_, _, rfl, IsS.q, ?_⟩ | refine .inl ⟨_, _, rfl, IsS.r (by walk_at "lvM"), ?_⟩ | refine .inl ⟨_, _, rfl, IsS.sc, ?_⟩
    | refine .inl ⟨_, _, IsS.q, (by walk_at "lvA"), ?_⟩ | refine .inl ⟨_, _, IsS.r (by walk_at "lvM"), (by walk_at "lvA"), ?_⟩
    | refine .inl (g_int2 (And.intro (CMul.l (by omega) (by omega)) ?_)) | refine .inl (g_int2 (And.intro (CMul.r (by omega) (by omega)) ?_))
    | refine And.intro (CDiv.mk (by omega) (by omega)) ?_ | refine And.intro (by omega) ?_ | refine And.intro (Nat.le_of_ble_eq_true (by walk_at "lvW")) ?_
    | refine .inl ⟨_, _, rfl, ?_⟩
    | refine .inl ⟨_, rfl, ?_⟩ | refine .inr ⟨_, rfl, ?_⟩
    | refine ⟨_, _, _, _, rfl, (by walk_at "lvM"), rfl, (by walk_at "lvW"), ?_⟩
    | refine ⟨_, _, rfl, IsL.q, ?_⟩
    | refine ⟨_, rfl, .inl ⟨_, _, IsS.q, (by walk_at "lvA"), ?_⟩⟩))
local macro_rules
  | `(tactic| walk_at "lvm") => `(tactic| repeat' (first | walk_at "lv1" | (with_reducible refine s_seq ?_) | walk_at "lv2" | dsimp only))
local macro_rules
  | `(tactic| walk_at "lve") => `(tactic| repeat' (first | walk_at "lv1" | (with_reducible refine ev_lst ?_) | walk_at "lv2" | dsimp only))
local macro_rules
  | `(tactic| walk_at "lv") => `(tactic| repeat' (first | walk_at "lv1" | (with_reducible refine ev_lst ?_) | (with_reducible refine s_seq ?_) | walk_at "lv2" | dsimp only))
local macro_rules
  | `(tactic| walk_at "lve0") => `(tactic| repeat' (first
    | (with_reducible first | refine ev_var rfl ?_ | refine ev_int ?_ | refine ev_str ?_ | refine et_test ?_ | refine ev_eqE ?_ | refine ev_op ?_ | refine g_bl ?_ | refine g_eqI ?_ | refine g_eqSt ?_ | refine g_eqSf (by decide +kernel) ?_ | refine g_eqS ?_ | refine g_int ?_ | refine g_ifT ?_ | refine g_ifF ?_ | refine g_ifD ?_ ?_) | walk_at "lv2" | dsimp only))
local macro_rules
  | `(tactic| walk_at "lvx") => `(tactic| repeat' (first | (refine fun hx => absurd hx ?_; (with_reducible fail_if_success assumption); simp; done) | (refine fun _ => ?_; walk_at "lv")))
theorem wishers_lt {lv : Lvs} {W : List (Option Str)} {b : Nat} (h : b ∈ wishers lv W) : b < W.length := sel_lt h
def W_prices_by : Fw := fun ds M P => ∃ (k k' : Bool) (lv : Lvs) (W : List (Option Str)) (V : List Int), ds = [dLv lv, dWs k W, dVs k' V] ∧ lv.length = W.length ∧ V.length = W.length ∧ W.length ≤ 100 ∧ P (.sq true ((prices lv W V).map D.int)) M
theorem int_at {V : List Int} {b : Nat} (h : b < V.length) : (V.map D.int)[b]? = some (.int (V.getD b 0)) := by
  rw [List.getElem?_map, List.getElem?_eq_getElem h, List.getD_eq_getElem?_getD, List.getElem?_eq_getElem h]
  rfl
def N_prices_by : List Str := ["live", "wishes", "weights", "some", "found", "binder", "others", "weight", "one"]
def P_prices_by : List Str := ["live", "wishes", "weights"]
theorem sc_prices_by : FnScope N_prices_by P_prices_by (defScope s_prices_by) := ⟨rfl, rfl, rfl, by decide +kernel, rfl, by decide +kernel, by decide +kernel⟩
theorem h_prices_by {z : Cz} {mg : Str → Option Value} {base : Heap} {CF CT : Addr} (G : Gf z mg CF CT) (Dd : Df z mg "prices_by" s_prices_by) (H_wishing : Has z mg base "wishing" P_wishing 1 W_wishing) (H_mates_of : Has z mg base "mates_of" P_mates_of 1 W_mates_of) : Has z mg base "prices_by" P_prices_by (1 + 1) (W_prices_by) := by
  refine okDf Dd sc_prices_by (fun _ _ _ _ _ _ us hl => match us, hl with | [_, _, _], _ => rfl) (fun ds M P hw => ?_) (fun f cdv A outer s H E hr ds M P hw => ?_)
  · obtain ⟨k, k', lv, W, V, rfl, _⟩ := hw
    rfl
  obtain ⟨kk, k', lv, W, V, rfl, hl, hv, hz, k⟩ := hw
  refine ⟨_, (pss_cons (ps_asg (pe_tup (pa_cons (px_call H_wishing (hr.mono (by omega)) rfl (pa_cons (pv 0) (pa_cons (pv 1) pa_nil))) (pa_cons (pe_lc (own := [("weight", 7)]) rfl sc_prices_by.nd (zi_seq z (pv 2)) (blkOk_by (N := N_prices_by) (sc := defScope s_prices_by) (by decide +kernel)) (fun _ _ _ _ _ => (pg_name (i := 7) sc_prices_by.nd rfl (.inl rfl))) (fun _ _ _ _ _ => pts_nil) (fun _ _ _ _ _ => pe_int)) pa_nil))) (zg_tup (n := 2) z (pgs_cons (pg_name (i := 3) sc_prices_by.nd rfl (.inl rfl)) (pgs_cons (pg_name (i := 4) sc_prices_by.nd rfl (.inr rfl)) pgs_nil)))) (pss_cons (ps_for PassesOwn.never rfl (zi_seq z (zx_rev z (pv 3))) (pg_name (i := 5) sc_prices_by.nd rfl (.inl rfl)) (pss_cons (ps_set (i := 6) sc_prices_by.nd rfl (.inl rfl) (pe_callB (zc_sum z) rfl G.sum boot_sum (pa_cons (pe_lc (own := [("one", 8)]) rfl sc_prices_by.nd (zi_seq z (px_call H_mates_of (hr.mono (by omega)) rfl (pa_cons (pv 0) (pa_cons (pv 1) (pa_cons (pv 5) (pa_cons (pv 3) pa_nil)))))) (blkOk_by (N := N_prices_by) (sc := defScope s_prices_by) (by decide +kernel)) (fun _ _ _ _ _ => (pg_name (i := 8) sc_prices_by.nd rfl (.inl rfl))) (fun _ _ _ _ _ => pts_nil) (fun _ _ _ _ _ => (zx_ix z (pv 4) (pv 8)))) pa_nil))) (pss_one (ps_asg (pe_callB (zc_max z) rfl G.max boot_max (pa_cons pe_int (pa_cons (pe_op ox_sub (zx_ix z (pv 2) (pv 5)) (pv 6)) pa_nil))) (pg_sub (pv 4) (pv 5) set_list))))) (pss_one (ps_ret (pv 4))))), ?_⟩
  refine s_seq (s_tup2 (ev_tup (ea_cons (ev_call (ea_cons (ev_var rfl (ea_cons (ev_var rfl (ea_nil ⟨kk, lv, W, rfl, hl, hz, ?_⟩)))))))))
  refine ea_cons (ev_lcA [7] (fun _ h => h) V D.int (fun _ => .int 0) (ei_seq (ev_var rfl ⟨_, .q, rfl, szl (by omega), .q, ?_, ?_, .inr fun p hp => ?_⟩)))
  · intro i v hv2
    exact eg_name ⟨rfl, ev_int ⟨rfl, rfl⟩⟩
  · rw [List.length_map]; exact szl (by omega)
  refine ea_nil ⟨by simp [sizeLine], _, _, rfl, ?_⟩
  have hws : (wishers lv W).length ≤ 100 := Nat.le_trans (sel_len _ _) hz
  have e0 : (V.map fun _ => D.int 0) = (V.map fun _ => (0 : Int)).map D.int := by rw [List.map_map]; rfl
  rw [e0]
  refine s_seq (s_for (js := [5]) (ei_seq (ev_rev (ev_var rfl ⟨_, .q, by rw [List.length_reverse, List.length_map]; exact szl (by omega), .inl ?_⟩))))
  refine ⟨_, .q, fun i γ m => ∃ c5 c6 c7 c8, γ = [some (dLv lv), some (dWs kk W), some (dVs k' V), some (dNat (wishers lv W)), some (.ref p), c5, c6, c7, c8] ∧ m = mupd M p (.lst ((((wishers lv W).reverse.take i).foldl (priceStep lv W V) (V.map fun _ => 0)).map D.int)), ⟨_, _, _, _, rfl, rfl⟩, fun _ _ _ _ _ => .q, ?_, ?_⟩
  · rintro i x γ m hx ⟨c5, c6, c7, c8, rfl, rfl⟩
    rw [← List.map_reverse, List.getElem?_map] at hx
    cases qb : (wishers lv W).reverse[i]? with
    | none => rw [qb] at hx; cases hx
    | some b =>
      rw [qb] at hx
      cases hx
      have hbw : b ∈ wishers lv W := List.mem_reverse.mp (List.mem_of_getElem? qb)
      have hb := wishers_lt hbw
      have hpl : (((wishers lv W).reverse.take i).foldl (priceStep lv W V) (V.map fun _ => 0)).length = V.length := by
        have : ∀ (bs : List Nat) (p : List Int), (bs.foldl (priceStep lv W V) p).length = p.length := by
          intro bs
          induction bs with
          | nil => intro p; rfl
          | cons b bs ih => intro p; rw [List.foldl_cons, ih, priceStep_len]
        rw [this, List.length_map]
      generalize hpp : ((wishers lv W).reverse.take i).foldl (priceStep lv W V) (V.map fun _ => 0) = pp at hpl ⊢
      refine eg_name (s_seq (s_set (ev_cb (ea_cons ?_))))
      have hms : ∀ c ∈ matesOf lv W b (wishers lv W), c < V.length := fun c hc => by rw [hv]; exact wishers_lt (List.mem_filter.mp hc).1
      have hml : (matesOf lv W b (wishers lv W)).length ≤ 100 := Nat.le_trans (List.length_filter_le _ _) hws
      refine ev_lcA [8] (fun _ h => h) (matesOf lv W b (wishers lv W)) (fun c => D.int (c : Nat)) (fun c => D.int (pp.getD c 0)) (ei_seq (ev_call (ea_cons (ev_var rfl (ea_cons (ev_var rfl (ea_cons (ev_var rfl (ea_cons (ev_var rfl (ea_nil ⟨kk, lv, W, b, wishers lv W, rfl, hl, by omega, fun c hc => wishers_lt hc, hb, ?_⟩)))))))))))
      refine ⟨_, .q, rfl, szl (by omega), .q, ?_, ?_, .inl ?_⟩
      · intro j c hc
        have hc2 := hms c (List.mem_of_getElem? hc)
        refine eg_name ⟨rfl, ev_op (ev_var rfl (ev_var rfl ⟨_, rfl, .inl ⟨_, _, .r mupd_same, atI_nat c (int_at (by rw [hpl]; exact hc2)), rfl, rfl⟩⟩))⟩
      · rw [List.length_map]; exact szl (by omega)
      refine ea_nil ⟨_, (matesOf lv W b (wishers lv W)).map fun c => pp.getD c 0, rfl, .inl (by rw [List.map_map]; rfl), ?_⟩
      refine s_subL (ev_cb (ea_cons (ev_int (ea_cons (ev_op (ev_op (ev_var rfl (ev_var rfl ⟨_, rfl, .inl ⟨_, _, .q, atI_nat b (int_at (by omega)), ev_var rfl ⟨_, _, rfl, rfl, ea_nil (.inl ⟨_, _, rfl, ?_⟩)⟩⟩⟩))))))))
      refine ev_var rfl (ev_var rfl ⟨p, _, _, b, rfl, mupd_same, rfl, ?_, ?_⟩)
      · unfold ixN
        rw [if_pos (by omega), if_pos (by rw [List.length_map, hpl, hv]; omega)]
        simp
      · refine ⟨_, _, _, _, rfl, ?_⟩
        rw [mupd_mupd, foldl_take_succ qb, hpp]
        unfold priceStep
        have em : ∀ a b : Int, (if b > a then b else a) = max a b := fun a b => by split <;> omega
        rw [em, List.map_set]
  · rintro γ m ⟨c5, c6, c7, c8, rfl, rfl⟩
    have hl2 : ((wishers lv W).map fun i => D.int (i : Nat)).reverse.length = (wishers lv W).reverse.length := by simp
    rw [hl2, List.take_length]
    refine EVS.freeze 4 rfl mupd_same ?_ ?_
    · rw [List.length_map]
      show (prices lv W V).length ≤ _
      rw [prices_len]; exact szl (by omega)
    rw [mdel_mupd hp]
    exact s_ret (ev_var rfl k)
theorem kept_sub {lv : Lvs} {W : List (Option Str)} {p : List Int} : ∀ (bs acc : List Nat), ∀ c ∈ bs.foldl (keepStep lv W p) acc, c ∈ acc ∨ c ∈ bs := by
  intro bs
  induction bs with
  | nil => intro acc c h; exact .inl h
  | cons b bs ih =>
    intro acc c h
    rcases ih _ c h with h | h
    · unfold keepStep at h
      split at h
      · rcases List.mem_append.mp h with h | h
        · exact .inl h
        · simp at h; subst h; exact .inr List.mem_cons_self
      · exact .inl h
    · exact .inr (List.mem_cons_of_mem _ h)
theorem kept_leng {lv : Lvs} {W : List (Option Str)} {p : List Int} : ∀ (bs acc : List Nat), (bs.foldl (keepStep lv W p) acc).length ≤ acc.length + bs.length := by
  intro bs
  induction bs with
  | nil => intro acc; exact Nat.le_refl _
  | cons b bs ih =>
    intro acc
    refine Nat.le_trans (ih _) ?_
    unfold keepStep
    split <;> simp <;> omega
def W_kept_of : Fw := fun ds M P => ∃ (k k' : Bool) (lv : Lvs) (W : List (Option Str)) (V : List Int), ds = [dLv lv, dWs k W, dVs k' V] ∧ lv.length = W.length ∧ V.length = W.length ∧ W.length ≤ 100 ∧ P (dNat (kept lv W V)) M
def N_kept_of : List Str := ["live", "wishes", "weights", "prices", "found", "binder", "hurt_by", "one"]
def P_kept_of : List Str := ["live", "wishes", "weights"]
theorem sc_kept_of : FnScope N_kept_of P_kept_of (defScope s_kept_of) := ⟨rfl, rfl, rfl, by decide +kernel, rfl, by decide +kernel, by decide +kernel⟩
theorem h_kept_of {z : Cz} {mg : Str → Option Value} {base : Heap} {CF CT : Addr} (G : Gf z mg CF CT) (Dd : Df z mg "kept_of" s_kept_of) (H_wishing : Has z mg base "wishing" P_wishing 1 W_wishing) (H_prices_by : Has z mg base "prices_by" P_prices_by 2 W_prices_by) : Has z mg base "kept_of" P_kept_of (2 + 1) (W_kept_of) := by
  refine okDf Dd sc_kept_of (fun _ _ _ _ _ _ us hl => match us, hl with | [_, _, _], _ => rfl) (fun ds M P hw => ?_) (fun f cdv A outer s H E hr ds M P hw => ?_)
  · obtain ⟨k, k', lv, W, V, rfl, _⟩ := hw
    rfl
  obtain ⟨kk, k', lv, W, V, rfl, hl, hv, hz, k⟩ := hw
  refine ⟨_, (pss_cons (ps_par (i := 3) (j := 4) rfl sc_kept_of.nd rfl rfl (by decide) rfl rfl (pa_cons (px_call H_prices_by (hr.mono (by omega)) rfl (pa_cons (pv 0) (pa_cons (pv 1) (pa_cons (pv 2) pa_nil)))) (pa_cons (pe_lst pa_nil) pa_nil)) (by rfl)) (pss_cons (ps_for PassesOwn.never rfl (zi_seq z (px_call H_wishing (hr.mono (by omega)) rfl (pa_cons (pv 0) (pa_cons (pv 1) pa_nil)))) (pg_name (i := 5) sc_kept_of.nd rfl (.inr rfl)) (pss_cons (ps_setLc (i := 6) (own := [("one", 7)]) rfl sc_kept_of.nd rfl rfl (sw_true rfl rfl rfl (by decide +kernel)) (zi_seq z (pv 4)) (blkOk_by (N := N_kept_of) (sc := defScope s_kept_of) (by decide +kernel)) (fun _ _ _ _ _ => (pg_name (i := 7) sc_kept_of.nd rfl (.inl rfl))) (fun _ _ _ _ _ => (pts_one (PW.pt (pw_and (pt_cmpR (zo_eq z hr) (zx_ix z (pv 1) (pv 7)) (zx_ix z (pv 1) (pv 5)) (nomark _)) (pw_and1 (pt_cmpR (zo_in z) (pv 7) (zx_ix z (pv 0) (pv 5)) (by with_unfolding_all rfl))))))) (fun _ _ _ _ _ => (pv 7))) (pss_one (ps_if (PW.pt (pw_and (pt_cmpR ox_gt (zx_ix z (pv 3) (pv 5)) pe_int (nomark _)) (pw_and1 (pt_cmpR (zo_eq z hr) (pv 6) (pe_lst pa_nil) (nomark _))))) (pss_one (ps_expr (zx_bm z PySem.F.plainAttrs_list PySem.F.slot_list_append PySem.F.type_list_append xm_append (pv 4) (pa_cons (pv 5) pa_nil)))) pss_nil)))) (pss_one (ps_ret (pv 4))))), ?_⟩
  refine s_seq (s_par (ea_cons (ev_call (ea_cons (ev_var rfl (ea_cons (ev_var rfl (ea_cons (ev_var rfl (ea_nil ⟨kk, k', lv, W, V, rfl, hl, hv, hz, ?_⟩))))))))))
  refine ea_cons (ev_lst0 fun p hp => ea_nil ⟨_, _, rfl, ?_⟩)
  have hws : (wishers lv W).length ≤ 100 := Nat.le_trans (sel_len _ _) hz
  refine s_seq (s_for (js := [5]) (ei_seq (ev_call (ea_cons (ev_var rfl (ea_cons (ev_var rfl (ea_nil ⟨kk, lv, W, rfl, hl, hz, ?_⟩))))))))
  refine ⟨_, .q, fun i γ m => ∃ c5 c6 c7, γ = [some (dLv lv), some (dWs kk W), some (dVs k' V), some (.sq true ((prices lv W V).map D.int)), some (.ref p), c5, c6, c7] ∧ m = mupd M p (.lst ((((wishers lv W).take i).foldl (keepStep lv W (prices lv W V)) []).map fun c => D.int (c : Nat))), ⟨_, _, _, rfl, rfl⟩, fun _ _ _ _ _ => .q, ?_, ?_⟩
  · rintro i x γ m hx ⟨c5, c6, c7, rfl, rfl⟩
    rw [List.getElem?_map] at hx
    cases qb : (wishers lv W)[i]? with
    | none => rw [qb] at hx; cases hx
    | some b =>
      rw [qb] at hx
      cases hx
      have hbw : b ∈ wishers lv W := List.mem_of_getElem? qb
      have hb := wishers_lt hbw
      have hfs : ∀ c ∈ ((wishers lv W).take i).foldl (keepStep lv W (prices lv W V)) [], c < W.length := fun c hc => by
        rcases kept_sub _ _ c hc with h | h
        · cases h
        · exact wishers_lt (List.mem_of_mem_take h)
      have hfl : (((wishers lv W).take i).foldl (keepStep lv W (prices lv W V)) []).length ≤ 100 := by
        have := kept_leng (lv := lv) (W := W) (p := prices lv W V) ((wishers lv W).take i) []
        rw [List.length_take] at this
        simp at this
        omega
      have hst := foldl_take_succ (f := keepStep lv W (prices lv W V)) (b := []) qb
      generalize hff : ((wishers lv W).take i).foldl (keepStep lv W (prices lv W V)) [] = ff at hfs hfl hst ⊢
      refine eg_name (s_seq (s_set ?_))
      refine ev_lcX [7] (fun _ h => h) ff (fun c => D.int (c : Nat)) (fun c => decide (W.getD c none = W.getD b none) && decide (Sum.inl (c : Int) ∈ lv.getD b [])) (fun c => D.int (c : Nat)) (ei_seq (ev_var rfl ⟨_, .r mupd_same, rfl, szl (by omega), .r mupd_same, ?_, ?_, .inl ?_⟩))
      · intro j c hc
        have hcm := hfs c (List.mem_of_getElem? hc)
        refine eg_name ⟨rfl, et_and (et_test (ev_op (ev_op (ev_var rfl (ev_var rfl ⟨_, rfl, .inl ⟨_, _, .q, atI_nat c (W_at (k := kk) hcm), ?_⟩⟩)))))⟩
        refine ev_op (ev_var rfl (ev_var rfl ⟨_, rfl, .inl ⟨_, _, .q, atI_nat b (W_at (k := kk) hb), ?_⟩⟩))
        refine ⟨_, dW_eq _ _, _, rfl, fun h2 => ?_, fun h2 => ?_⟩
        · refine et_test (ev_op (ev_var rfl (ev_op (ev_var rfl (ev_var rfl ⟨_, rfl, .inl ⟨_, _, .q, atI_nat b (lv_at (by omega)), ?_⟩⟩)))))
          refine ⟨_, .q, rfl, flat_key _, ?_⟩
          have e := inD_key (x := .inl (c : Int)) (xs := lv.getD b [])
          refine ⟨_, rfl, ?_, rfl, fun _ => ev_var rfl ⟨rfl, rfl⟩⟩
          rw [h2, Bool.true_and, ← e]
          rfl
        · refine ⟨?_, rfl, fun q => nomatch q⟩
          rw [h2, Bool.false_and]
      · rw [List.length_map]; exact Nat.le_trans (List.length_filter_le _ _) (szl (by omega))
      have ehu : (ff.filter fun c => decide (W.getD c none = W.getD b none) && decide (Sum.inl (c : Int) ∈ lv.getD b [])) = hurt lv W ff b := rfl
      rw [ehu]
      have hpb : b < (prices lv W V).length := by rw [prices_len]; omega
      refine s_if (et_and (et_test (ev_op (ev_op (ev_var rfl (ev_var rfl ⟨_, rfl, .inl ⟨_, _, .q, atI_nat b (int_at hpb), ?_⟩⟩))))))
      refine ev_int ⟨_, _, rfl, rfl, _, rfl, fun h1 => ?_, fun h1 => ?_⟩
      · have h1' := of_decide_eq_true h1
        refine et_test (ev_eqE (ev_var rfl ⟨_, rfl, ⟨0, by decide, fun x hx => ?_⟩, _, rfl, fun h2 => ?_, fun h2 => ?_⟩))
        · obtain ⟨y, _, rfl⟩ := List.mem_map.mp hx
          exact Da.int
        · have h2' : (hurt lv W ff b).isEmpty = true := by rw [List.isEmpty_map] at h2; exact h2
          refine s_drop (ev_bm (ev_var rfl ⟨⟨_, .inl ⟨p, rfl, mupd_same⟩⟩, ea_cons (ev_var rfl (ea_nil ⟨p, _, rfl, mupd_same, _, rfl, by rw [List.length_map]; simp only [sizeLine]; omega, ?_⟩))⟩))
          refine ⟨_, _, _, rfl, ?_⟩
          rw [mupd_mupd, hst]
          unfold keepStep
          rw [if_pos ⟨h1', h2'⟩, List.map_append]
          rfl
        · have h2' : (hurt lv W ff b).isEmpty = false := by rw [List.isEmpty_map] at h2; exact h2
          refine s_next ⟨_, _, _, rfl, ?_⟩
          rw [hst]
          unfold keepStep
          rw [if_neg (by rw [h2']; simp)]
      · have h1' := of_decide_eq_false h1
        refine ⟨(fun q => nomatch q), fun _ => s_next ⟨_, _, _, rfl, ?_⟩⟩
        rw [hst]
        unfold keepStep
        rw [if_neg (fun q => h1' q.1)]
  · rintro γ m ⟨c5, c6, c7, rfl, rfl⟩
    rw [List.length_map, List.take_length]
    refine EVS.freeze 4 rfl mupd_same ?_ ?_
    · rw [List.length_map]
      refine Nat.le_trans (kept_leng _ _) (szl (by simp; omega))
    rw [mdel_mupd hp]
    exact s_ret (ev_var rfl k)
def W_kept_by (CT : Addr) : Fw := fun ds M P => ∃ (t : Tr) (k k' : Bool) (W : List (Option Str)) (xs : List Str), ds = [dTm CT t, dWs k W, .sq k' (xs.map D.str)] ∧ TmOk t ∧ WOk t W ∧ NamOk t xs ∧ NewL ((keptB W xs).map fun b => D.int (b : Nat)) M P
def N_kept_by : List Str := ["term", "wishes", "names"]
def P_kept_by : List Str := ["term", "wishes", "names"]
theorem sc_kept_by : FnScope N_kept_by P_kept_by (defScope s_kept_by) := ⟨rfl, rfl, rfl, by decide +kernel, rfl, by decide +kernel, by decide +kernel⟩
theorem h_kept_by {z : Cz} {mg : Str → Option Value} {base : Heap} {CF CT : Addr} (G : Gf z mg CF CT) (Dd : Df z mg "kept_by" s_kept_by) (H_look_at_wishes : Has z mg base "look_at_wishes" P_look_at_wishes 3 (W_look_at_wishes CT)) (H_look_at_right : Has z mg base "look_at_right" P_look_at_right 4 (W_look_at_right CT)) (H_kept_binders : Has z mg base "kept_binders" P_kept_binders 1 W_kept_binders) : Has z mg base "kept_by" P_kept_by (4 + 1) (W_kept_by  CT) := by
  refine okDf Dd sc_kept_by (fun _ _ _ _ _ _ us hl => match us, hl with | [_, _, _], _ => rfl) (fun ds M P hw => ?_) (fun f cdv A outer s H E hr ds M P hw => ?_)
  · obtain ⟨t, k, k', W, xs, rfl, _⟩ := hw
    rfl
  obtain ⟨t, kk, k', W, xs, rfl, ht, hw, hx, n⟩ := hw
  refine ⟨_, (pss_cons (ps_expr (px_call H_look_at_wishes (hr.mono (by omega)) rfl (pa_cons (pv 0) (pa_cons (pv 1) pa_nil)))) (pss_cons (ps_expr (px_call H_look_at_right (hr.mono (by omega)) rfl (pa_cons (pv 0) (pa_cons (pv 2) pa_nil)))) (pss_one (ps_ret (px_call H_kept_binders (hr.mono (by omega)) rfl (pa_cons (pv 1) (pa_cons (pv 2) pa_nil))))))), ?_⟩
  have h6 := nmN t
  refine s_seq (s_drop (ev_call (ea_cons (ev_var rfl (ea_cons (ev_var rfl (ea_nil ⟨t, kk, W, rfl, ht, hw, ?_⟩)))))))
  refine s_seq (s_drop (ev_call (ea_cons (ev_var rfl (ea_cons (ev_var rfl (ea_nil ⟨t, k', xs, rfl, ht, hx, ?_⟩)))))))
  exact s_ret (ev_call (ea_cons (ev_var rfl (ea_cons (ev_var rfl (ea_nil ⟨kk, k', W, xs, rfl, by rw [hw.1, hx.1], by rw [hw.1, h6]; have := ht.2.2; omega, n⟩))))))
def W_kept_weight (CT : Addr) : Fw := fun ds M P => ∃ (t : Tr) (k k' k'' : Bool) (W : List (Option Str)) (V : List Int) (xs : List Str), ds = [dTm CT t, dWs k W, dVs k'' V, .sq k' (xs.map D.str)] ∧ TmOk t ∧ WOk t W ∧ VOk t V ∧ NamOk t xs ∧ P (.int ((keptB W xs).map fun b => V.getD b 0).sum) M
def N_kept_weight : List Str := ["term", "wishes", "weights", "names", "binder"]
def P_kept_weight : List Str := ["term", "wishes", "weights", "names"]
theorem sc_kept_weight : FnScope N_kept_weight P_kept_weight (defScope s_kept_weight) := ⟨rfl, rfl, rfl, by decide +kernel, rfl, by decide +kernel, by decide +kernel⟩
theorem h_kept_weight {z : Cz} {mg : Str → Option Value} {base : Heap} {CF CT : Addr} (G : Gf z mg CF CT) (Dd : Df z mg "kept_weight" s_kept_weight) (H_look_at_both : Has z mg base "look_at_both" P_look_at_both 4 (W_look_at_both CT)) (H_look_at_right : Has z mg base "look_at_right" P_look_at_right 4 (W_look_at_right CT)) (H_kept_binders : Has z mg base "kept_binders" P_kept_binders 1 W_kept_binders) : Has z mg base "kept_weight" P_kept_weight (4 + 1) (W_kept_weight  CT) := by
  refine okDf Dd sc_kept_weight (fun _ _ _ _ _ _ us hl => match us, hl with | [_, _, _, _], _ => rfl) (fun ds M P hw => ?_) (fun f cdv A outer s H E hr ds M P hw => ?_)
  · obtain ⟨t, k, k', k'', W, V, xs, rfl, _⟩ := hw
    rfl
  obtain ⟨t, kk, k', k'', W, V, xs, rfl, ht, hw, hv, hx, k⟩ := hw
  refine ⟨_, (pss_cons (ps_expr (px_call H_look_at_both (hr.mono (by omega)) rfl (pa_cons (pv 0) (pa_cons (pv 1) (pa_cons (pv 2) pa_nil))))) (pss_cons (ps_expr (px_call H_look_at_right (hr.mono (by omega)) rfl (pa_cons (pv 0) (pa_cons (pv 3) pa_nil)))) (pss_one (ps_ret (pe_callB (zc_sum z) rfl G.sum boot_sum (pa_cons (pe_lc (own := [("binder", 4)]) rfl sc_kept_weight.nd (zi_seq z (px_call H_kept_binders (hr.mono (by omega)) rfl (pa_cons (pv 1) (pa_cons (pv 3) pa_nil)))) (blkOk_by (N := N_kept_weight) (sc := defScope s_kept_weight) (by decide +kernel)) (fun _ _ _ _ _ => (pg_name (i := 4) sc_kept_weight.nd rfl (.inl rfl))) (fun _ _ _ _ _ => pts_nil) (fun _ _ _ _ _ => (zx_ix z (pv 2) (pv 4)))) pa_nil)))))), ?_⟩
  have h6 := nmN t
  have hW : W.length ≤ 100 := by rw [hw.1, h6]; have := ht.2.2; omega
  refine s_seq (s_drop (ev_call (ea_cons (ev_var rfl (ea_cons (ev_var rfl (ea_cons (ev_var rfl (ea_nil ⟨t, kk, k'', W, V, rfl, ht, hw, hv, ?_⟩)))))))))
  refine s_seq (s_drop (ev_call (ea_cons (ev_var rfl (ea_cons (ev_var rfl (ea_nil ⟨t, k', xs, rfl, ht, hx, ?_⟩)))))))
  have hkl : (keptB W xs).length ≤ 100 := Nat.le_trans (sel_len _ _) hW
  refine s_ret (ev_cb (ea_cons ?_))
  refine ev_lcA [4] (fun _ h => h) (keptB W xs) (fun b => D.int (b : Nat)) (fun b => D.int (V.getD b 0)) (ei_seq (ev_call (ea_cons (ev_var rfl (ea_cons (ev_var rfl (ea_nil ⟨kk, k', W, xs, rfl, by rw [hw.1, hx.1], hW, by rw [List.length_map]; exact szl (by omega), .inl ?_⟩)))))))
  refine ⟨_, .q, rfl, szl (by omega), .q, ?_, ?_, .inl ?_⟩
  · intro j b hb
    have hb2 : b < V.length := by rw [hv.1, ← hw.1]; exact sel_lt (List.mem_of_getElem? hb)
    exact eg_name ⟨rfl, ev_op (ev_var rfl (ev_var rfl ⟨_, rfl, .inl ⟨_, _, .q, atI_nat b (int_at hb2), rfl, rfl⟩⟩))⟩
  · rw [List.length_map]; exact szl (by omega)
  exact ea_nil ⟨_, (keptB W xs).map fun b => V.getD b 0, rfl, .inl (by rw [List.map_map]; rfl), k⟩
end Lv

set_option Elab.async false
set_option linter.all false
set_option maxRecDepth 100000
set_option maxHeartbeats 4000000
/-! Lay11: sorted by a lambda that tells length and text. -/
namespace Lv
open PySem PySem.Spec PyProof.Rows L2 StX
/-- the lambda's tree: (len(x), x) -/
abbrev lkBody (nm : Str) (k : Nat) (p1 p2 p3 p4 p5 : Pos) : Expr := .Tuple [.Call (.Name "len" p1) [.Name nm p2] [] p3, .Name nm p4] k p5
def lkKey (x : Str) : PyData := .tuple [.int x.length, .str x]
theorem lk_call {prog : Program} {w : World} {A : Around} {s : Shared} {f c' : Addr} {qual nm : Str} {params : Arguments} {scope : Scope} {pm ctv : Value} {mg mb : Str → Option Value} {k : Nat} {p1 p2 p3 p4 p5 : Pos} {x : Str} {t : Tok}
    (hroom : A.depth < recursionLimit) (ho : s.heap.get? f = some (PySem.W.kla_obj "<lambda>" qual params (lkBody nm k p1 p2 p3 p4 p5) scope [] pm c' ctv)) (hc : s.heap.CodeRec (.ref c') qual) (hl : s.heap.NoLimit)
    (hg : s.heap.Ns mainGlobals mg) (hm : mg "len" = none) (hb : s.heap.Ns builtinsNs mb) (hmb : mb "len" = some (.builtin "len"))
    (hbind : ∀ v : Value, bindArgs (PySem.W.kla_fn "<lambda>" qual params (lkBody nm k p1 p2 p3 p4 p5) scope [] pm (.ref c') ctv) ⟨[v], []⟩ = pure [(nm, v)])
    (hk : scope.kind = .function) (hco : scope.isCoroutine = false) (hgen : scope.isGenerator = false) (hcell : ∀ y ∈ scope.names, y.2 ≠ .cell) (hnm : scope.names.lookup nm = some .local) (hlen : scope.names.lookup ("len" : Str) = some .globalImplicit)
    (hnd : (nm == ("__debug__" : Str)) = false) (hx : x.length ≤ sizeLine) :
    wpAny (model prog w) A (call (.ref f) [.str x t]) (PySem.W.KeyPure (lkKey x) s) (fun _ _ => False) s := by
  refine wpAny_call (PySem.W.kla_callFunE hroom ho rfl hco hgen rfl hc ?_)
  rw [hbind]
  refine wpAny_pure (wpAny_newFunctionEnv hcell (fun y hy => by simp at hy; rw [hy]; exact hnm) (fun h₁ hns hsb => ⟨hl.fresh _ hsb, ?_⟩) hk)
  have kp : ∀ b o, s.heap.get? b = some o → h₁.get? b = some o := fun b o e => hsb.extBut b o (Nat.ne_of_lt (Heap.lt_size e)) (Heap.get?_push_of_some _ e)
  have hmx : (fun y => ([(nm, Value.str x t)] : List (Str × Value)).reverse.lookup y) nm = some (.str x t) := by simp [List.lookup]
  refine PySem.W.kla_codeExpr (wpAny_Tuple_spliced ?_)
  refine Calls.spliced_cons ?_
  refine wpAny_Call_Name_kw (Calls.Name_function_global hk hlen (Calls.loadGlobal_builtin (hg.keeps kp) hm (hb.keeps kp) hmb ?_))
  refine PyProof.Rows.callWith_builtin1 (Calls.spliced_cons (wpAny_Name (wpAny_loadName_local hk hnm hns hmx (Calls.spliced_nil ?_)) hnd))
  refine len_str (by simp only [sizeLine] at hx; omega) ?_
  refine Calls.spliced_cons (wpAny_Name (wpAny_loadName_local hk hnm hns hmx (Calls.spliced_nil ⟨by show 2 ≤ sizeLine; decide, ?_⟩)) hnd)
  refine ⟨_, _, rfl, fun b o e => Heap.get?_push_of_some _ (kp b o e), ?_⟩
  exact .tuple (as := []) (Heap.get?_push_size _ rfl) rfl rfl (.cons (.int _ _) (.cons (.str _ _) .nil))
def srt (xs : List Str) : List Str := xs.mergeSort (PySem.W.dataLe false lkKey)
def tSortKey (K : PySem.W.Frag) (T : List (Addr × Str)) (tl : TE) : TE := fun σ H Q => tl σ H fun v H1 => ∃ l xs, v = .ref l ∧ SqL K H1 l (xs.map V.str) ∧ xs.length ≤ sizeLine ∧ (∀ x ∈ xs, x.length ≤ sizeLine) ∧ LamX.Tabs T H1 ∧
  ∀ H2, LamX.ExtN H1 H2 → LamX.Tabs T H2 → ∀ a, H2 a = none → Q (.ref a) (upd H2 a (.lst ((srt xs).map V.str)))
theorem each_str : ∀ {xs : List Str} {its : List Value}, Vals (xs.map V.str) its → PySem.W.EachIs (fun v x => ∃ t, v = Value.str x t) its xs
  | [], its, r => by cases r; exact .nil
  | x :: xs, its, r => by
    cases r with
    | cons a b => exact .cons a (each_str b)
theorem vals_str : ∀ {xs : List Str} {its : List Value}, PySem.W.EachIs (fun v x => ∃ t, v = Value.str x t) its xs → Vals (xs.map V.str) its
  | [], its, r => by cases r; exact .nil
  | x :: xs, its, r => by
    cases r with
    | cons a b => exact .cons a (vals_str b)
theorem sql_extN {K : PySem.W.Frag} {H H' : Hp} {a : Addr} {xs : List V} (e : LamX.ExtN H H') (h : SqL K H a xs) : SqL K H' a xs := by
  rcases h with (h | ⟨o, h⟩) | h
  · exact .inl (.inl (e _ _ h (fun ps q => by cases q)))
  · exact .inl (.inr ⟨o, e _ _ h (fun ps q => by cases q)⟩)
  · exact .inr h
theorem pe_sortKey {X : Cx} {T : List (Addr × Str)} {c P : Addr} {params : Arguments} {scope : Scope} {nm : Str} {k kk : Nat} {p1 p2 p3 p4 p5 lpos kpos p pos : Pos} {e : Expr} {tl : TE} (hl : PE X e tl) (hgS : Gl X "sorted") (hmS : X.mg "sorted" = none) (hmL : X.mg "len" = none)
    (TB : LamX.TabB X.base X.mg c P) (hcode : X.env.code = .ref c) (hT : (P, X.env.qual ++ "<lambda>") ∈ T) (hu : ∀ q ∈ T, q.1 = P → q.2 = X.env.qual ++ "<lambda>") (hr : Room kk X.A)
    (hbind : ∀ (pm ctv : Value) (c' : Addr) (v : Value), bindArgs (PySem.W.kla_fn "<lambda>" (X.env.qual ++ "<lambda>") params (lkBody nm k p1 p2 p3 p4 p5) scope [] pm (.ref c') ctv) ⟨[v], []⟩ = pure [(nm, v)])
    (hk : scope.kind = .function) (hco : scope.isCoroutine = false) (hgen : scope.isGenerator = false) (hcell : ∀ y ∈ scope.names, y.2 ≠ .cell) (hfree : ∀ y ∈ scope.names, y.2 ≠ .free) (hnm : scope.names.lookup nm = some .local) (hlen : scope.names.lookup ("len" : Str) = some .globalImplicit) (hnd : (nm == ("__debug__" : Str)) = false)
    (hdef : defaultsOf params X.env = ([], []) := by rfl) (hclo : cloFrom X.env.cells scope.names [] = [] := by rfl)
    (hs : starEach [e] X.env = [(false, eval e X.env)] := by rfl) :
    PE X (.Call (.Name "sorted" p) [e] [⟨some "key", .Lambda params (lkBody nm k p1 p2 p3 p4 p5) scope lpos, kpos⟩] pos) (tSortKey X.K T tl) := by
  refine ⟨fun pins s σ H Q I h => ?_⟩
  refine wpAny_Call_Name_kw (ld_blt I hgS hmS (by decide +kernel : bootBuiltins "sorted" = some (.builtin "sorted")) ?_ (by decide) (by decide))
  refine PyProof.Rows.callWith_kw ?_ (by rw [hs]; rfl) (by rw [hs]; rfl) rfl rfl
  rw [hs]
  refine Calls.spliced_cons (thn (hl.run pins s σ H _ I h) fun u s1 ⟨v, H1, I1, r1, l, xs, ev, hq, hz, hx, hTs, q1⟩ => ?_)
  subst ev
  obtain rfl : u = Value.ref l := r1
  refine Calls.spliced_nil ?_
  show wpAny _ _ (evalAll [(do let v ← eval (.Lambda params (lkBody nm k p1 p2 p3 p4 p5) scope lpos) X.env; standAt pos; pure v)]) _ _ s1
  refine wpAny_evalAll_cons (wpAny_bind ?_)
  refine LamX.lam_make2 I1 TB hcode hT hu hTs hdef (fun y hy e => absurd e (hfree y hy)) fun f c' pm ctv H2 s2 I2 eN T2 hf hfn hfr hcO => ?_
  refine wpAny_bind (wpAny_standAt (wpAny_pure (wpAny_evalAll_nil ?_)))
  show wpAny _ _ (call (.builtin "sorted") [.ref l] [(Str.ofString "key", .ref f)]) _ _ s2
  rw [hclo] at hf
  have hq2 := sql_extN eN hq
  obtain ⟨its, rv, hL, hz2⟩ := I2.list hq2
  obtain ⟨⟨oc, vs, t, hoc, hdc, hvc⟩, _, _⟩ := I2.hok c' _ hcO
  have he := each_str rv
  refine PySem.W.sorted_key_data (b := false) lkKey hL.isList he (PySem.W.AllAlike.of fun _ _ => by simp [PySem.W.alike, PySem.W.alikeAll, lkKey]) (PySem.W.Sortable.tuples fun _ => ⟨_, _, rfl⟩) hz (fun y _ => ?_) (PyProof.Rows.ksk_s1 _ _) (fun _ => PyProof.Rows.ksk_l1 _ _) (fun _ => PyProof.Rows.ksk_t1 _ _) ?_ ?_
  · have hd : (lkKey y).depth = 1 := by simp [lkKey, PyData.depth, PyData.depthAll]
    have := hr.un
    omega
  · intro v y hv hy h tk kp
    obtain ⟨tt, rfl⟩ := hv
    obtain ⟨mb, hb1, hb2⟩ := I2.mod.blt
    have kb : ∀ b o, X.base.get? b = some o → h.get? b = some o := fun b o e => kp b o (I2.bk b o e)
    exact lk_call (mg := X.mg) (mb := mb) (by have := hr.dp; show X.A.depth < _; omega) (kp f _ hf) ⟨c', oc, vs, t, rfl, kp _ _ hoc, hdc, hvc⟩ (I2.mod.nolimit.keeps kb) (I2.mod.glob.keeps kb) hmL (hb1.keeps kb) ((hb2 "len" (by decide)).trans (by decide +kernel)) (hbind pm ctv c') hk hco hgen hcell hnm hlen hnd (hx y hy)
  · intro out c2 h' tk kp hfresh hD hlen2 eo
    have hlen3 : ((srt xs).map V.str).length ≤ sizeLine := by rw [List.length_map]; unfold srt; rw [List.length_mergeSort]; exact hz
    exact ⟨.ref _, upd H2 (s2.heap.objs.size + 1) (.lst ((srt xs).map V.str)), I2.laid kp (Nat.le_succ _) ⟨hlen3, out, c2, vals_str eo, hD⟩, rfl, q1 H2 eN T2 _ (I2.hok.fresh (Nat.le_succ _))⟩
end Lv

set_option Elab.async false
set_option linter.all false
set_option maxRecDepth 100000
set_option maxHeartbeats 4000000
/-! Lay12: sorted by the lambda, over data; a def that makes a lambda. -/
namespace Lv
open PySem PySem.Spec PyProof.Rows L2 StX
theorem Hs.extN {z : Cz} {B F : Hp} {M : Mem} {H H' : Hp} (s : Hs z B F M H) (e : LamX.ExtN H H') (t : LamX.Tabs z.T H') : Hs z B F M H' :=
  ⟨fun a o q => e a o (s.b a o q) (fun ps x => by subst x; exact s.nb a ps q), fun a o q => ⟨e a o (s.f a o q).1 (fun ps x => by subst x; exact s.nf a ps q), (s.f a o q).2⟩, fun a o q => by
    obtain ⟨h1, h2⟩ := s.m a o q
    refine ⟨h1, ?_⟩
    cases qq : H a with
    | none => rw [qq] at h2; cases h2
    | some u =>
      rw [qq] at h2
      rw [e a u qq (fun ps x => by subst x; cases h2)]
      exact h2, s.nb, s.nf, t⟩
theorem ev_sortKey {z : Cz} {Γ : Gam} {M : Mem} {tl : TE} {P : D → Mem → Prop} (h : EV z tl Γ M fun d M1 => ∃ xs : List Str, IsL M1 d (xs.map D.str) ∧ xs.length ≤ 1000 ∧ (∀ x ∈ xs, x.length ≤ 1000) ∧ NewL ((srt xs).map D.str) M1 P) : EV z (tSortKey z.K z.T tl) Γ M P :=
  fun B F σ H sl hs Q q => h B F σ H sl hs _ fun d M1 ⟨xs, il, hl, hx, n⟩ v B1 H1 e1 r1 s1 => by
    obtain ⟨p, vs, ev, hp, t⟩ := il.at_ r1 s1
    have et := t.strs
    subst et
    refine ⟨p, xs, ev, .inl (.inl hp), by simp only [sizeLine]; omega, fun x hx' => by have := hx x hx'; simp only [sizeLine]; omega, s1.tb, fun H2 eN T2 a ha => ?_⟩
    exact n.fin (s1.extN eN T2) (Rps.of_map (fun i => .str i) _) (Fi.mono q e1) ha
def DfL (z : Cz) (mg : Str → Option Value) (base : Heap) (x : Str) (st : Stmt) : Prop := ∃ f fd c Pt, FunD z.K x x (defArgs st) (defBody st) (defScope st) [] [] f fd ∧ mg x = some (.ref f) ∧ fd.code = .ref c ∧ LamX.TabB base mg c Pt ∧
  (Pt, x ++ ".<locals>." ++ "<lambda>") ∈ z.T ∧ ∀ q ∈ z.T, q.1 = Pt → q.2 = x ++ ".<locals>." ++ "<lambda>"
theorem okDfL {z : Cz} {mg : Str → Option Value} {base : Heap} {x : Str} {st : Stmt} {N ps : List Str} {k : Nat} {W : Fw} (D : DfL z mg base x st) (S : FnScope N ps (defScope st))
    (hb : ∀ (kV doc pm : Value) (an : Option Addr) (cdv ct : Value) (us : List Value), us.length = ps.length → bindArgs (PySem.W.fnOf x x (defArgs st) (defBody st) (defScope st) .none kV doc pm an cdv ct) ⟨us, []⟩ = pure (ps.zip us))
    (len : ∀ ds M P, W ds M P → ds.length = ps.length)
    (hbody : ∀ (f c Pt : Addr), LamX.TabB base mg c Pt → (Pt, x ++ ".<locals>." ++ "<lambda>") ∈ z.T → (∀ q ∈ z.T, q.1 = Pt → q.2 = x ++ ".<locals>." ++ "<lambda>") → ∀ (A : Around) (outer : List Env) (s : Shared) (H : Hp) (E : XK), Room k (A.deeper (envOfC x (defScope st) s.heap.objs.size f (.ref c))) → ∀ ds M P, W ds M P →
      ∃ t, PSs (cxOf CX0 z.P z.w z.K mg base N x (defScope st) f (.ref c) A outer s H E).nox (defBody st) t ∧ EVS z t (startG N ds) M ⟨fun _ M' => P .non M', P, fun _ _ => False, fun _ _ => False⟩) : Has z mg base x ps (k + 1) W := by
  obtain ⟨f, fd, c, Pt, F, m, hc, TB, hT, hu⟩ := D
  have hF := F
  obtain ⟨oc, od, dV, kV, doc, pm, an, cdv, ct, osl, rfl, lk, hcd, _, _⟩ := F.ex
  have hc' : cdv = .ref c := hc
  subst hc'
  refine ⟨f, _, fn_of lk hcd S (fun vs H Q E ⟨B, Fr, M, ds, P, r, s, w, q⟩ => r.length.trans (len ds M P w)) fun A outer s H vs Q E hr ⟨B, Fr, M, ds, P, r, hs, w, q⟩ => ?_, m, hF.kp, hF.bindsN hb⟩
  obtain ⟨t, ht, hv⟩ := hbody f c Pt TB hT hu A outer s H E hr ds M P w
  exact ⟨t, ht.nox, hv B Fr _ H _ (slots_start r) hs ⟨fun Γ' M' p B' σ' H' e sl s' => q .non M' p .non B' H' e .non s', q, fun Γ' M' p => p.elim, fun Γ' M' p => p.elim⟩⟩
/-- pe_sortKey in z's terms -/
theorem zx_sortKey {z : Cz} {X : Cx} {c P : Addr} {params : Arguments} {scope : Scope} {nm : Str} {k kk : Nat} {p1 p2 p3 p4 p5 lpos kpos p pos : Pos} {e : Expr} {tl : TE} (hl : PE X e tl) (hgS : Gl X "sorted") (hmS : X.mg "sorted" = none) (hmL : X.mg "len" = none)
    (TB : LamX.TabB X.base X.mg c P) (hcode : X.env.code = .ref c) (hT : (P, X.env.qual ++ "<lambda>") ∈ z.T) (hu : ∀ q ∈ z.T, q.1 = P → q.2 = X.env.qual ++ "<lambda>") (hr : Room kk X.A)
    (hbind : ∀ (pm ctv : Value) (c' : Addr) (v : Value), bindArgs (PySem.W.kla_fn "<lambda>" (X.env.qual ++ "<lambda>") params (lkBody nm k p1 p2 p3 p4 p5) scope [] pm (.ref c') ctv) ⟨[v], []⟩ = pure [(nm, v)] := by intro _ _ _ _; rfl)
    (hk : scope.kind = .function := by rfl) (hco : scope.isCoroutine = false := by rfl) (hgen : scope.isGenerator = false := by rfl) (hcell : ∀ y ∈ scope.names, y.2 ≠ .cell := by decide +kernel) (hfree : ∀ y ∈ scope.names, y.2 ≠ .free := by decide +kernel)
    (hnm : scope.names.lookup nm = some .local := by rfl) (hlen : scope.names.lookup ("len" : Str) = some .globalImplicit := by rfl) (hnd : (nm == ("__debug__" : Str)) = false := by decide +kernel)
    (hdef : defaultsOf params X.env = ([], []) := by rfl) (hclo : cloFrom X.env.cells scope.names [] = [] := by rfl) (hs : starEach [e] X.env = [(false, eval e X.env)] := by rfl) (hK : X.K = z.K := by rfl) :
    PE X (.Call (.Name "sorted" p) [e] [⟨some "key", .Lambda params (lkBody nm k p1 p2 p3 p4 p5) scope lpos, kpos⟩] pos) (tSortKey z.K z.T tl) := by
  rw [← hK]
  exact pe_sortKey hl hgS hmS hmL TB hcode hT hu hr hbind hk hco hgen hcell hfree hnm hlen hnd hdef hclo hs
end Lv

set_option Elab.async false
set_option linter.all false
set_option maxRecDepth 100000
set_option maxHeartbeats 4000000
set_option pp.maxSteps 400
set_option pp.deepTerms false
namespace Lv
open PySem PySem.Spec PyProof.Rows L2 StX
local macro_rules
  | `(tactic| walk_at "lv1") => `(tactic| with_reducible (first
    | refine s_set ?_ | refine s_ret ?_ | refine s_if ?_ | refine s_drop ?_ | refine s_next ?_ | refine s_par ?_ | refine s_par3 ?_ | refine s_subL ?_ | refine s_unl2 ?_ | refine s_tup2 ?_ | refine eg_unl2 ?_ | refine eg_unl3 ?_ | refine eg_tup2 ?_
    | refine ev_var rfl ?_ | refine ev_int ?_ | refine ev_str ?_ | refine ev_bl ?_ | refine ev_non ?_ | refine ev_ref ?_
    | refine ev_lst0 ?_ | refine ev_eqE ?_ | refine ev_neE ?_ | refine ev_op ?_ | refine ev_un ?_ | refine ev_isiLT ?_ | refine ev_isi ?_ | refine ev_cb ?_ | refine ev_chain ?_ | refine ev_andV ?_ | refine ev_orV ?_ | refine ev_notV ?_ | refine ev_if ?_ | refine ev_tup ?_ | refine ev_call ?_
    | refine et_and ?_ | refine et_or ?_ | refine et_not ?_ | refine et_test ?_ | refine et_b ?_ | refine et_yes ?_
    | refine ea_cons ?_ | refine ea_nil ?_
    | refine g_int2 ?_ | refine g_bl ?_ | refine g_int ?_ | refine g_addI ?_ | refine g_eqI ?_ | refine g_eqSt ?_ | refine g_eqSf (by decide +kernel) ?_ | refine g_eqS ?_ | refine g_eqIS ?_ | refine g_eqSI ?_ | refine g_eqNS ?_ | refine g_isn ?_
    | refine g_par ?_ | refine g_par3 ?_ | refine g_neg ?_
    | refine g_ifT ?_ | refine g_ifNT ?_ | refine g_ifNF ?_ | refine g_ifF ?_ | refine g_ifD ?_ ?_ | refine g_ifDN ?_ ?_
    | refine eg_name ?_ | refine eg_setL ?_))
local macro_rules
  | `(tactic| walk_at "lvM") => `(tactic| first | assumption | exact mupd_same)
local macro_rules
  | `(tactic| walk_at "lvW") => `(tactic| with_unfolding_all rfl)
local macro_rules
  | `(tactic| walk_at "lvA") => `(tactic| first | with_unfolding_all rfl | with_unfolding_all exact atI_nat 0 rfl | with_unfolding_all exact atI_nat 1 rfl)
local macro_rules
  | `(tactic| walk_at "lv2") => `(tactic| with_reducible (first
    | refine ⟨_, _, (by walk_at "lvW"), kb_ii, ?_⟩ | refine ⟨_, _, (by walk_at "lvW"), kb_ib, ?_⟩ | refine ⟨_, _, (by walk_at "lvW"), kb_is, ?_⟩ | refine ⟨_, _, (by walk_at "lvW"), kb_ss, ?_⟩ | refine ⟨_, _, (by walk_at "lvW"), kb_tt, ?_⟩
    | refine .inl ⟨_, _, rfl, IsS.q, ?_⟩ | refine .inl ⟨_, _, rfl, IsS.r (by walk_at "lvM"), ?_⟩ | refine .inl ⟨_, _, rfl, IsS.sc, ?_⟩
    | refine .inl ⟨_, _, IsS.q, (by walk_at "lvA"), ?_⟩ | refine .inl ⟨_, _, IsS.r (by walk_at "lvM"), (by walk_at "lvA"), ?_⟩
    | refine .inl (g_int2 (And.intro (CMul.l (by omega) (by omega)) ?_)) | refine .inl (g_int2 (And.intro (CMul.r (by omega) (by omega)) ?_))
    | refine And.intro (CDiv.mk (by omega) (by omega)) ?_ | refine And.intro (by omega) ?_ | refine And.intro (Nat.le_of_ble_eq_true (by walk_at "lvW")) ?_
    | refine .inl ⟨_, _, rfl, ?_⟩
    | refine .inl ⟨_, rfl, ?_⟩ | refine .inr ⟨_, rfl, ?_⟩
    | refine ⟨_, _, _, _, rfl, (by walk_at "lvM"), rfl, (by walk_at "lvW"), ?_⟩
    | refine ⟨_, _, rfl, IsL.q, ?_⟩
    | refine ⟨_, rfl, .inl ⟨_, _, IsS.q, (by walk_at "lvA"), ?_⟩⟩))
local macro_rules
  | `(tactic| walk_at "lvm") => `(tactic| repeat' (first | walk_at "lv1" | (with_reducible refine s_seq ?_) | walk_at "lv2" | dsimp only))
local macro_rules
  | `(tactic| walk_at "lve") => `(tactic| repeat' (first | walk_at "lv1" | (with_reducible refine ev_lst ?_) | walk_at "lv2" | dsimp only))
local macro_rules
  | `(tactic| walk_at "lv") => `(tactic| repeat' (first | walk_at "lv1" | (with_reducible refine ev_lst ?_) | (with_reducible refine s_seq ?_) | walk_at "lv2" | dsimp only))
local macro_rules
  | `(tactic| walk_at "lve0") => `(tactic| repeat' (first
    | (with_reducible first | refine ev_var rfl ?_ | refine ev_int ?_ | refine ev_str ?_ | refine et_test ?_ | refine ev_eqE ?_ | refine ev_op ?_ | refine g_bl ?_ | refine g_eqI ?_ | refine g_eqSt ?_ | refine g_eqSf (by decide +kernel) ?_ | refine g_eqS ?_ | refine g_int ?_ | refine g_ifT ?_ | refine g_ifF ?_ | refine g_ifD ?_ ?_) | walk_at "lv2" | dsimp only))
local macro_rules
  | `(tactic| walk_at "lvx") => `(tactic| repeat' (first | (refine fun hx => absurd hx ?_; (with_reducible fail_if_success assumption); simp; done) | (refine fun _ => ?_; walk_at "lv")))
def uniq (xs : List Str) : List Str := xs.foldl (fun acc x => if x ∈ acc then acc else acc ++ [x]) []
theorem uniq_take {xs : List Str} {i : Nat} {x : Str} (h : xs[i]? = some x) : uniq (xs.take (i + 1)) = if x ∈ uniq (xs.take i) then uniq (xs.take i) else uniq (xs.take i) ++ [x] := foldl_take_succ h
theorem uniq_len (xs : List Str) : (uniq xs).length ≤ xs.length := by
  have : ∀ (ys acc : List Str), (ys.foldl (fun acc x => if x ∈ acc then acc else acc ++ [x]) acc).length ≤ acc.length + ys.length := by
    intro ys
    induction ys with
    | nil => intro acc; simp
    | cons y ys ih =>
      intro acc
      refine Nat.le_trans (ih _) ?_
      dsimp only
      split <;> simp <;> omega
  have h := this xs []
  rw [List.length_nil, Nat.zero_add] at h
  exact h
theorem uniq_mem {xs : List Str} {x : Str} : x ∈ uniq xs ↔ x ∈ xs := by
  have : ∀ (ys acc : List Str), x ∈ ys.foldl (fun acc x => if x ∈ acc then acc else acc ++ [x]) acc ↔ x ∈ acc ∨ x ∈ ys := by
    intro ys
    induction ys with
    | nil => intro acc; simp
    | cons y ys ih =>
      intro acc
      rw [List.foldl_cons, ih]
      by_cases hy : y ∈ acc
      · rw [if_pos hy]
        constructor
        · rintro (h | h)
          · exact .inl h
          · exact .inr (List.mem_cons_of_mem _ h)
        · rintro (h | h)
          · exact .inl h
          · rcases List.mem_cons.mp h with e | h
            · exact .inl (e ▸ hy)
            · exact .inr h
      · rw [if_neg hy]
        simp only [List.mem_append, List.mem_cons, List.not_mem_nil, or_false, or_assoc]
  have h := this xs []
  simp only [List.not_mem_nil, false_or] at h
  exact h
theorem unlike_strs (xs : List Str) : unlike (xs.map D.str) = (uniq xs).map D.str := by
  have : ∀ (ys acc : List Str), (ys.map D.str).foldl (fun acc x => if inD x acc = true then acc else acc ++ [x]) (acc.map D.str) = (ys.foldl (fun acc x => if x ∈ acc then acc else acc ++ [x]) acc).map D.str := by
    intro ys
    induction ys with
    | nil => intro acc; rfl
    | cons y ys ih =>
      intro acc
      rw [List.map_cons, List.foldl_cons, List.foldl_cons, inD_str]
      by_cases hy : y ∈ acc
      · rw [if_pos (by simpa using hy), if_pos hy, ih]
      · rw [if_neg (by simpa using hy), if_neg hy, ← ih, List.map_append]; rfl
  exact this xs []
theorem put_old {ks : List Str} {x : Str} (h : x ∈ ks) : putD (ks.map fun s => ((.inr s : Key), D.bl true)) (.inr x) (.bl true) = ks.map fun s => ((.inr s : Key), D.bl true) := by
  unfold putD
  rw [if_pos]
  · rw [List.map_map]
    apply List.map_congr_left
    intro s hs
    show (if (Sum.inr s : Key) = Sum.inr x then _ else _) = _
    split <;> rfl
  · rw [List.any_eq_true]
    exact ⟨(.inr x, .bl true), List.mem_map.mpr ⟨x, h, rfl⟩, by simp⟩
theorem put_fresh {ks : List Str} {x : Str} (h : x ∉ ks) : putD (ks.map fun s => ((.inr s : Key), D.bl true)) (.inr x) (.bl true) = (ks ++ [x]).map fun s => ((.inr s : Key), D.bl true) := by
  rw [putD_new, List.map_append]
  · rfl
  · intro e he q
    obtain ⟨s, hs, rfl⟩ := List.mem_map.mp he
    have : s = x := by simpa using q
    exact h (this ▸ hs)
def W_each_once : Fw := fun ds M P => ∃ (k : Bool) (xs : List Str), ds = [.sq k (xs.map D.str)] ∧ xs.length ≤ 1000 ∧ P (.sq true ((uniq xs).map D.str)) M
def N_each_once : List Str := ["some", "one"]
def P_each_once : List Str := ["some"]
theorem sc_each_once : FnScope N_each_once P_each_once (defScope s_each_once) := ⟨rfl, rfl, rfl, by decide +kernel, rfl, by decide +kernel, by decide +kernel⟩
theorem h_each_once {z : Cz} {mg : Str → Option Value} {base : Heap} {CF CT : Addr} (G : Gf z mg CF CT) (Dd : Df z mg "each_once" s_each_once)  : Has z mg base "each_once" P_each_once (0 + 1) (W_each_once) := by
  refine okDf Dd sc_each_once (fun _ _ _ _ _ _ us hl => match us, hl with | [_], _ => rfl) (fun ds M P hw => ?_) (fun f cdv A outer s H E hr ds M P hw => ?_)
  · obtain ⟨k, xs, rfl, _⟩ := hw
    rfl
  obtain ⟨kk, xs, rfl, hl, k⟩ := hw
  refine ⟨_, (pss_one (ps_ret (pe_callTy (zc_list z) rfl G.list boot_list (pa_cons (pe_dc (own := [("one", 1)]) rfl sc_each_once.nd (zi_seq z (pv 0)) (blkOk_by (N := N_each_once) (sc := defScope s_each_once) (by decide +kernel)) (fun _ _ _ _ _ => (pg_name (i := 1) sc_each_once.nd rfl (.inl rfl))) (fun _ _ _ _ _ => pts_nil) (fun _ _ _ _ _ => (pv 1)) (fun _ _ _ _ _ => pe_bl)) pa_nil)))), ?_⟩
  refine s_ret (EV.forget (ev_cb (ea_cons ?_)))
  refine ev_dc [1] (fun _ h => h) (ei_seq (ev_var rfl ⟨_, .q, by rw [List.length_map]; exact szl hl, fun i acc m => acc = (uniq (xs.take i)).map (fun s => ((.inr s : Key), D.bl true)) ∧ m = M, ⟨rfl, rfl⟩, ?_, ?_, ?_⟩))
  · rintro i acc m hi ⟨rfl, rfl⟩
    refine ⟨.q, ?_⟩
    rw [List.length_map]
    have := uniq_len (xs.take i)
    rw [List.length_take] at this
    omega
  · rintro i x acc m hx ⟨rfl, rfl⟩
    rw [List.getElem?_map] at hx
    cases q : xs[i]? with
    | none => rw [q] at hx; cases hx
    | some s =>
      rw [q] at hx
      cases hx
      refine eg_name (et_yes ⟨fun _ => ev_var rfl (ev_bl ⟨.inr s, rfl, ?_, rfl⟩), fun q => nomatch q⟩)
      rw [uniq_take q]
      by_cases h : s ∈ uniq (xs.take i)
      · rw [if_pos h, put_old h]
      · rw [if_neg h, put_fresh h]
  · rintro acc m ⟨rfl, rfl⟩ p hp
    rw [List.length_map, List.take_length]
    refine ea_nil (.inr (.inl ⟨p, _, rfl, mupd_same, ?_, .inl ⟨m, mupd_ex hp, ?_⟩⟩))
    · rw [List.length_map, List.length_map]; exact Nat.le_trans (uniq_len _) (szl hl)
    · rw [List.map_map]
      exact k
def W_ordered : Fw := fun ds M P => ∃ (k : Bool) (xs : List Str), ds = [.sq k (xs.map D.str)] ∧ xs.length ≤ 1000 ∧ (∀ x ∈ xs, OkName x) ∧ P (.sq true ((srt (uniq xs)).map D.str)) M
theorem srt_len (xs : List Str) : (srt xs).length = xs.length := by unfold srt; rw [List.length_mergeSort]
theorem srt_mem {xs : List Str} {x : Str} : x ∈ srt xs ↔ x ∈ xs := by unfold srt; rw [List.mem_mergeSort]
def N_ordered : List Str := ["names"]
def P_ordered : List Str := ["names"]
theorem sc_ordered : FnScope N_ordered P_ordered (defScope s_ordered) := ⟨rfl, rfl, rfl, by decide +kernel, rfl, by decide +kernel, by decide +kernel⟩
theorem h_ordered {z : Cz} {mg : Str → Option Value} {base : Heap} {CF CT : Addr} (G : Gf z mg CF CT) (Dd : DfL z mg base "ordered" s_ordered) (H_each_once : Has z mg base "each_once" P_each_once 1 W_each_once) : Has z mg base "ordered" P_ordered (1 + 1) (W_ordered) := by
  refine okDfL Dd sc_ordered (fun _ _ _ _ _ _ us hl => match us, hl with | [_], _ => rfl) (fun ds M P hw => ?_) (fun f c Pt TB hTm hTu A outer s H E hr ds M P hw => ?_)
  · obtain ⟨k, xs, rfl, _⟩ := hw
    rfl
  obtain ⟨kk, xs, rfl, hl, hx, k⟩ := hw
  refine ⟨_, (pss_one (ps_ret (zx_sortKey (px_call H_each_once (hr.mono (by omega)) rfl (pa_cons (pv 0) pa_nil)) rfl G.sorted G.len TB rfl hTm hTu hr))), ?_⟩
  refine s_ret (ev_sortKey (ev_call (ea_cons (ev_var rfl (ea_nil ⟨kk, xs, rfl, hl, ?_⟩)))))
  have hu := uniq_len xs
  refine ⟨uniq xs, .q, by omega, fun x hx' => by have := (hx x (uniq_mem.mp hx')).2.1; omega, ?_, .inl k⟩
  rw [List.length_map, srt_len]; exact szl (by omega)
def W_law_in_order : Fw := fun ds M P => ∃ (xs : List Str), ds = [.sq true (xs.map D.str)] ∧ xs.length ≤ 1000 ∧ (∀ x ∈ xs, OkName x) ∧ P (.sq true ((srt (uniq xs)).map D.str)) M
def N_law_in_order : List Str := ["_law_some"]
def P_law_in_order : List Str := ["_law_some"]
theorem sc_law_in_order : FnScope N_law_in_order P_law_in_order (defScope s_law_in_order) := ⟨rfl, rfl, rfl, by decide +kernel, rfl, by decide +kernel, by decide +kernel⟩
theorem h_law_in_order {z : Cz} {mg : Str → Option Value} {base : Heap} {CF CT : Addr} (G : Gf z mg CF CT) (Dd : DfL z mg base "_law_in_order" s_law_in_order) (H_law_unlike : Has z mg base "_law_unlike" P_law_unlike 1 W_law_unlike) : Has z mg base "_law_in_order" P_law_in_order (1 + 1) (W_law_in_order) := by
  refine okDfL Dd sc_law_in_order (fun _ _ _ _ _ _ us hl => match us, hl with | [_], _ => rfl) (fun ds M P hw => ?_) (fun f c Pt TB hTm hTu A outer s H E hr ds M P hw => ?_)
  · obtain ⟨xs, rfl, _⟩ := hw
    rfl
  obtain ⟨xs, rfl, hl, hx, k⟩ := hw
  refine ⟨_, (pss_one (ps_ret (zx_sortKey (px_call H_law_unlike (hr.mono (by omega)) rfl (pa_cons (pv 0) pa_nil)) rfl G.sorted G.len TB rfl hTm hTu hr))), ?_⟩
  refine s_ret (ev_sortKey (ev_call (ea_cons (ev_var rfl (ea_nil ⟨_, rfl, flat_strs _, by rw [List.length_map]; exact szl hl, ?_⟩)))))
  have hu := uniq_len xs
  rw [unlike_strs]
  refine ⟨uniq xs, .q, by omega, fun x hx' => by have := (hx x (uniq_mem.mp hx')).2.1; omega, ?_, .inl k⟩
  rw [List.length_map, srt_len]; exact szl (by omega)
end Lv

set_option Elab.async false
set_option linter.all false
set_option maxRecDepth 100000
set_option maxHeartbeats 4000000
/-! Lay13: {k: True for ..} where a key may be None. -/
namespace Lv
open PySem PySem.Spec PyProof.Rows L2 StX
def NdX (P : Program) (w : World) (a : Addr) (ks : List (Option Str)) : HO :=
  .ext fun h => (a == sysModules) = false ∧ h.DictOf (noneKind P w) a (ks.map fun k => (nkey k, Value.bool true))
def okV : Option Str → V
  | none => .non
  | some s => .str s
def addN (ks : List (Option Str)) (k : Option Str) : List (Option Str) := if k ∈ ks then ks else ks ++ [k]
theorem addN_len (ks : List (Option Str)) (k : Option Str) : (addN ks k).length ≤ ks.length + 1 := by unfold addN; split <;> simp
theorem nkey_inj {a b : Option Str} (h : nkey a = nkey b) : a = b := by
  cases a <;> cases b <;> simp [nkey] at h ⊢
  exact h
theorem stored_addN (ks : List (Option Str)) (k : Option Str) : stored (ks.map fun k => (nkey k, Value.bool true)) (nkey k) (.bool true) = (addN ks k).map fun k => (nkey k, Value.bool true) := by
  unfold stored addN
  by_cases hk : k ∈ ks
  · rw [if_pos hk, if_pos]
    · rw [List.map_map]
      apply List.map_congr_left
      intro x hx
      show (if nkey x = nkey k then _ else _) = _
      split <;> rfl
    · rw [List.any_eq_true]
      exact ⟨(nkey k, .bool true), List.mem_map.mpr ⟨k, hk, rfl⟩, by simp⟩
  · rw [if_neg hk, if_neg]
    · rw [List.map_append]; rfl
    · rw [List.any_eq_true]
      rintro ⟨p, hp, e⟩
      obtain ⟨x, hx, rfl⟩ := List.mem_map.mp hp
      have : nkey x = nkey k := by simpa using e
      exact hk (nkey_inj this ▸ hx)
theorem nd_ok {P : Program} {w : World} {H : Hp} {h : Heap} {a : Addr} {ks : List (Option Str)} (h1 : (a == sysModules) = false) (h2 : h.DictOf (noneKind P w) a (ks.map fun k => (nkey k, Value.bool true))) : ObjOk P w H h a (NdX P w a ks) := by
  refine ⟨⟨h1, h2⟩, ?_, fun g1 g2 ⟨a1, a2⟩ st => ⟨a1, ?_⟩⟩
  · obtain ⟨o, _, _, ho, _⟩ := h2
    exact ⟨o, ho⟩
  · obtain ⟨o, es, ep, ho, r⟩ := a2
    exact ⟨o, es, ep, st o ho, r⟩
theorem nd_key {P : Program} {w : World} {k : Option Str} {u : Value} (r : RelV (okV k) u) : (noneKind P w).is (nkey k) u = true := by
  cases k with
  | none =>
    have : u = .none := r
    subst this
    rfl
  | some s => exact kV_is (P := P) (w := w) (k := .inr s) r
/-- one more key -/
theorem d_setN {X : Cx} {pins : List (Addr × Obj)} {σ : L2.St} {H : Hp} {s : Shared} {Ex : Value → Shared → Prop} {a : Addr} {ks : List (Option Str)} {k : Option Str} {u : Value} {R : Unit → Shared → Prop} (I : Inv X pins σ H s) (ha : H a = some (NdX X.prog X.w a ks)) (hz : ks.length < sizeLine) (r : RelV (okV k) u)
    (fin : ∀ s', Inv X pins σ (upd H a (NdX X.prog X.w a (addN ks k))) s' → R () s') : wpAny (model X.prog X.w) X.A (dictSet a u (.bool true)) R Ex s := by
  obtain ⟨⟨h1, h2⟩, _, _⟩ := I.hok a _ ha
  refine wpAny_dictSet_pairs (hsz := by rw [List.length_map]; omega) (nd_key r) h2 fun g hd sb => fin _ ?_
  rw [stored_addN] at hd
  have na : ∀ b, H b = none → b ≠ a := fun b e q => by rw [q, ha] at e; cases e
  have hold : ∃ o, g.get? a = some o := by obtain ⟨o, _, _, ho, _⟩ := hd; exact ⟨o, ho⟩
  refine I.step (g' := s.gens) (d' := s.drawn) (ch := []) (fun b hb => nomatch hb) (fun b o _ _ _ e n => (sb.2 b (na b n)).trans e) (fun b o _ _ _ e n => ⟨o.slots, (sb.2 b (na b n)).trans e⟩) (fun b o _ e n => by rw [upd_ne (na b n)]; exact n) (fun b o _ e => ?_)
    (fun b xs e => ?_) (fun b o v e => ?_) (fun b ps e => ?_) (fun m hn => ?_) (fun b v e => ?_) I.bare
  · by_cases hb : b = a
    · rw [hb]; exact hold
    · exact ⟨o, (sb.2 b hb).trans e⟩
  · rw [upd_ne (fun q => by rw [q, ha] at e; cases e)]; exact e
  · rw [upd_ne (fun q => by rw [q, ha] at e; cases e)]; exact e
  · refine ⟨#[], ?_⟩
    rw [upd_ne (fun q => by rw [q, ha] at e; cases e), e]
    simp
  · obtain ⟨ob, es, ep, ho, rr⟩ := hn
    exact ⟨ob, es, ep, (sb.2 _ (na _ I.free)).trans ho, rr⟩
  · by_cases hb : b = a
    · subst hb
      rw [upd_same] at e
      cases e
      exact nd_ok h1 hd
    · rw [upd_ne hb] at e
      refine (I.hok b v e).stay (fun d x hd q => (sb.2 d (fun z => ?_)).trans q) (fun d q => ?_) fun d xs q => ?_
      · rcases hd with z2 | z2
        · exact hb (z2.symm.trans z)
        · rw [z, ha] at z2; cases z2
      · rw [upd_ne (fun z => by rw [z, ha] at q; cases q)]; exact q
      · rw [upd_ne (fun z => by rw [z, ha] at q; cases q)]; exact q
/-- {k: True for target in iter}, k a text or None -/
def tDcN (P : Program) (w : World) (wi : TI) (g : TG) (tk : TE) (vs : List Nat) : TE := fun σ H Q => wi σ H fun J H1 => ∀ a, H1 a = none → ∃ W : Nat → Nat → Hp → Prop, (∃ m, W 0 m (upd H1 a (NdX P w a []))) ∧ ∀ i m H, W i m H →
  (J.stop i H ∧ Q (.ref a) H) ∨ (J.go i H ∧ ∃ Nx : Hp → Prop, (∀ H', Nx H' → ∃ m', m' < m ∧ W (i + 1) m' H') ∧ ∀ x H', J.yld i H x H' → g x (wipe σ vs) H' fun σ2 H2 => wipe σ2 vs = wipe σ vs ∧ tk σ2 H2 fun y H4 => ∃ ks k, y = okV k ∧ H4 a = some (NdX P w a ks) ∧ ks.length < sizeLine ∧ Nx (upd H4 a (NdX P w a (addN ks k))))
theorem dcN_core {X : Cx} {kx tg iter : Expr} {scope : Scope} {own : List (Str × Nat)} {pos p9 pos' : Pos} {k9 : Nat} {wi : TI} {g : TG} {tk : TE} {use : Option (Value → Sem Unit)} {Qf : Value → Shared → Prop} {pins : List (Addr × Obj)} {s : Shared} {σ : L2.St} {H : Hp} {Q : VK} (calm : X.calm = true) (nodup : X.N.Nodup) (I : Inv X pins σ H s) (walk : PI X tg iter wi) (ok : BlkOk X.N X.env.scope scope own)
    (hg : ∀ (s : Shared) (H : Hp) (C : Addr) (cl : List (Str × Addr)) (fp : List Addr), PG (X.blk s H scope (compEnvC scope cl C X.env) fp) tg g)
    (hk : ∀ (s : Shared) (H : Hp) (C : Addr) (cl : List (Str × Addr)) (fp : List Addr), PE (X.blk s H scope (compEnvC scope cl C X.env) fp) kx tk)
    (plain : ∀ x, foldedSetIterable iter X.env x = pure x) (want : tDcN X.prog X.w wi g tk (own.map (·.2)) σ H Q)
    (back : ∀ a C s' m H', Inv X pins σ H' s' → Q (.ref a) H' → s'.heap.Ns C m → FpOk X pins H' C → compPost (model X.prog X.w) X.A X.xe use Qf (.ref a) C (.ok .next) s') :
    wpAny (model X.prog X.w) X.A (comprehension (.DictComp kx (.Constant (.bool true) k9 p9) [⟨tg, iter, [], 0⟩] scope pos) scope X.env pos' newDict false (eval iter X.env) use) Qf X.xe s := by
  have caught : ∀ y ∈ scope.names, y.2 = .free → ∃ c, X.env.cells.lookup y.1 = some c := fun y hy e => (ok.free y hy e).elim (fun z => I.ok.has _ (.inl z)) fun z => I.ok.has _ (.inr z)
  refine wpAny_comprehension_free (use := use) rfl plain (closure_ok caught) ok.kind (fun y hy e => by rw [ok.uniq y hy, e]) (thn (walk.run pins s σ H _ I want) fun xv sa hx => thn hx fun itv sb hb => ?_)
  obtain ⟨it, fp, tn, J, Hb, rfl, Ib, T, t0, hfp, q⟩ := hb
  refine wpAny_newObj_type (newEnv_comp ?_)
  generalize ea : sb.heap.objs.size = a
  have na : Hb a = none := Ib.hok.fresh (Nat.le_of_eq ea)
  obtain ⟨W, ⟨m0, w0⟩, turn⟩ := q a na
  generalize ec : ({ sb with heap := sb.heap.push { cls := .type "dict", data := .dict #[] } } : Shared) = sc
  have heapc : sc.heap = sb.heap.push { cls := .type "dict", data := .dict #[] } := by rw [← ec]
  have Ic : Inv X pins σ (upd Hb a (NdX X.prog X.w a [])) sc := by
    rw [← ec]
    refine Ib.laid (t' := sb.toks) (fun b o e => Heap.get?_push_of_some _ e) (Nat.le_of_eq ea) ?_
    rw [← ea]
    exact nd_ok (ks := []) (beq_eq_false_iff_ne.mpr (Ne.symm (Nat.ne_of_lt Ib.big))) (Heap.DictOf.new sb.heap)
  have fpc : ∀ b ∈ fp, FpOk X pins (upd Hb a (NdX X.prog X.w a [])) b ∧ b < sc.heap.objs.size := fun b hb => by
    obtain ⟨o, e, _⟩ := T.obj _ _ t0 b hb
    have lt := Heap.lt_size e
    exact ⟨⟨by rw [upd_ne (by rw [← ea]; exact Nat.ne_of_lt lt)]; exact (hfp b hb).1, (hfp b hb).2⟩, by rw [heapc, Heap.size_push]; exact Nat.lt_succ_of_lt lt⟩
  have tc : tn 0 sc.heap := T.keep _ _ _ t0 fun b _ o e => by rw [heapc]; exact Heap.get?_push_of_some _ e
  have Id := block_start Ic ok nodup fpc
  generalize eH : upd Hb a (NdX X.prog X.w a []) = Hc at Ic Id w0 fpc
  have pg := hg sc Hc sc.heap.objs.size (cellsFrom (sc.heap.objs.size + 1) scope.names (cloFrom X.env.cells scope.names [])) fp
  have pk := hk sc Hc sc.heap.objs.size (cellsFrom (sc.heap.objs.size + 1) scope.names (cloFrom X.env.cells scope.names [])) fp
  show codeAny _ _ (.compStart (.DictComp kx (.Constant (.bool true) k9 p9) [⟨tg, iter, [], 0⟩] scope pos) 0 (.ref it) (.ref a) (compEnvC scope (cellsFrom (sc.heap.objs.size + 1) scope.names (cloFrom X.env.cells scope.names [])) sc.heap.objs.size X.env)) (compPost (model X.prog X.w) X.A X.xe use Qf (.ref a) sc.heap.objs.size) { sc with heap := pushCells (sc.heap.push { cls := .type "dict", data := .dict #[] }) scope.names }
  have nfp : ∀ b ∈ fp, Hc b = none := fun b hb => (fpc b hb).1.1
  generalize een : compEnvC scope (cellsFrom (sc.heap.objs.size + 1) scope.names (cloFrom X.env.cells scope.names [])) sc.heap.objs.size X.env = en at Id pg pk ⊢
  have enL : en.locals = sc.heap.objs.size := by subst een; rfl
  generalize ed : ({ sc with heap := pushCells (sc.heap.push { cls := .type "dict", data := .dict #[] }) scope.names } : Shared) = sd at Id ⊢
  have td0 : tn 0 sd.heap := T.keep _ _ _ tc fun b _ o e => by rw [← ed]; exact pushCells_keeps _ _ _ _ (Heap.get?_push_of_some _ e)
  have stat : ∀ {σ' : L2.St} {H' : Hp} {s' : Shared}, Inv (X.blk sc Hc scope en fp) [] σ' H' s' → (∀ b ∈ fp, H' b = none) → ∀ b ∈ fp, FpOk (X.blk sc Hc scope en fp) [] H' b := fun {σ' H' s'} I' hn b hb =>
    ⟨hn b hb, (I'.ok.exf b hb).1, I'.ok.exfs b hb, .inl hb, fun x c e => (I'.ok.exf b hb).2 x c e, fun p hp => absurd (show p ∈ ([] : List (Addr × Obj)) ++ [] from hp) (by simp)⟩
  have loop : codeAny (model X.prog X.w) X.A (.compLoop (.DictComp kx (.Constant (.bool true) k9 p9) [⟨tg, iter, [], 0⟩] scope pos) 0 (.ref it) (.ref a) en) (compPost (model X.prog X.w) X.A X.xe use Qf (.ref a) sc.heap.objs.size) sd := by
    refine L2.compLoop_anyD (fun n s' => ∃ i H', Inv (X.blk sc Hc scope en fp) [] (wipe σ (own.map (·.2))) H' s' ∧ tn i s'.heap ∧ (∀ b ∈ fp, H' b = none) ∧ W i n H') ?_ m0 ⟨0, Hc, Id, td0, nfp, w0⟩
    rintro n se ⟨i, He, Ie, te, ne, we⟩
    rcases turn i n He we with ⟨halt, qq⟩ | ⟨go, Nx, hNx, step⟩
    · refine thnF (T.done (X.blk sc Hc scope en fp) rfl rfl rfl calm i [] se _ He (fun _ _ => False) Ie (stat Ie ne) te halt) fun r sf ⟨hr, If⟩ => ?_
      subst hr
      have Iz : Inv X pins σ He sf := Ic.call' (ch := fp) If.os If.base If.hok If.bare fun b hb => ⟨(fpc b hb).1.2.2.2.1, (fpc b hb).1.2.1, (fpc b hb).1.2.2.2.2.1, (fpc b hb).1.2.2.2.2.2⟩
      have nC : He sc.heap.objs.size = none := by
        have z : He en.locals = none := If.free
        rw [enL] at z
        exact z
      obtain ⟨m, hn, _⟩ := If.loc
      have hn : sf.heap.Ns en.locals m := hn
      rw [enL] at hn
      exact back a sc.heap.objs.size sf m He Iz qq hn (Ic.fpOk (Nat.le_refl _) nC)
    · refine thnF (T.item (X.blk sc Hc scope en fp) rfl rfl rfl calm i [] se _ He (fun _ _ => False) Ie (stat Ie ne) te go) fun r sf ⟨u, hr, hf⟩ => ?_
      subst hr
      refine thnF hf fun _ sg ⟨x, Hg, Ig, rg, yg, tg', ng⟩ => ?_
      have Ip := Ig.pinned (stat Ig ng) (T.obj _ _ tg')
      refine thnF (pg.run _ sg _ Hg x u _ Ip rg (step x Hg yg)) fun _ sh ⟨σh, Hh, Ih, hw, qh⟩ => ?_
      refine wpAny_pure ?_
      simp only [if_true]
      refine thnF (pk.run _ sh σh Hh _ Ih qh) fun kv si ⟨y, Hi, Ii, ri, ks, k, ek, hia, hz, nx⟩ => ?_
      subst ek
      refine Constant_bool ?_
      refine d_setN (X := X.blk sc Hc scope en fp) Ii hia hz ri fun sj Ij => ?_
      obtain ⟨m', hm, w'⟩ := hNx _ nx
      have pin' : ∀ b ∈ fp, ∀ o, sg.heap.get? b = some o → sj.heap.get? b = some o ∧ (upd Hi a (NdX X.prog X.w a (addN ks k))) b = none := fun b hb o e =>
        let z := Ij.pin (b, o) (List.mem_append_right _ (List.mem_append_right _ (mem_pinsAt hb e)))
        ⟨z.1, z.2.1⟩
      have hlen : (wipe σ (own.map (·.2))).length = σh.length := by rw [← hw, wipe_length]
      refine ⟨m', hm, i + 1, _, (Ij.unpinned (pins := [])).weak hlen (fun j v e => ?_), T.keep _ _ _ tg' fun b hb o e => (pin' b hb o e).1, fun b hb => ?_, w'⟩
      · rw [← hw] at e
        exact (wipe_some e).1
      · obtain ⟨o, e, _⟩ := T.obj _ _ tg' b hb
        exact (pin' b hb o e).2
  exact codeAny_compStart_dict loop (T.self X.A 0 _ _ _ td0 loop)
theorem pe_dcN {X : Cx} {kx tg iter : Expr} {scope : Scope} {own : List (Str × Nat)} {pos p9 : Pos} {k9 : Nat} {wi : TI} {g : TG} {tk : TE} (calm : X.calm = true) (nodup : X.N.Nodup) (walk : PI X tg iter wi) (ok : BlkOk X.N X.env.scope scope own)
    (hg : ∀ (s : Shared) (H : Hp) (C : Addr) (cl : List (Str × Addr)) (fp : List Addr), PG (X.blk s H scope (compEnvC scope cl C X.env) fp) tg g)
    (hk : ∀ (s : Shared) (H : Hp) (C : Addr) (cl : List (Str × Addr)) (fp : List Addr), PE (X.blk s H scope (compEnvC scope cl C X.env) fp) kx tk)
    (plain : ∀ x, foldedSetIterable iter X.env x = pure x := by intro _; rfl) : PE X (.DictComp kx (.Constant (.bool true) k9 p9) [⟨tg, iter, [], 0⟩] scope pos) (tDcN X.prog X.w wi g tk (own.map (·.2))) := by
  refine ⟨fun pins s σ H Q I want => ?_⟩
  rw [arm_eval_DictComp]
  refine dcN_core calm nodup I walk ok hg hk plain want fun a C s' m H' I' q hn f => ⟨m, hn, fun h2 sb2 => ?_⟩
  obtain ⟨f0, f1, f2, f3, f4, f5⟩ := f
  exact ⟨.ref a, H', I'.turned (t' := s'.toks) (fun b o hb e => (sb2.2 b hb).trans e) f0 f1 f3 f4 f5, rfl, q⟩
/-- y = {k: True ..}, y a name of the def's own -/
theorem ps_setDcN {X : Cx} {i : Nat} {y : Str} {py : Pos} {kx tg iter : Expr} {scope : Scope} {own : List (Str × Nat)} {pos p9 spos : Pos} {k9 : Nat} {wi : TI} {g : TG} {tk : TE} (calm : X.calm = true) (nodup : X.N.Nodup) (hy : X.N[i]? = some y) (loc : X.env.scope.names.lookup y = some .local)
    (sw : swapsWith (.DictComp kx (.Constant (.bool true) k9 p9) [⟨tg, iter, [], 0⟩] scope pos) (some (.Name y py)) spos.line X.env = pure true) (walk : PI X tg iter wi) (ok : BlkOk X.N X.env.scope scope own)
    (hg : ∀ (s : Shared) (H : Hp) (C : Addr) (cl : List (Str × Addr)) (fp : List Addr), PG (X.blk s H scope (compEnvC scope cl C X.env) fp) tg g)
    (hk : ∀ (s : Shared) (H : Hp) (C : Addr) (cl : List (Str × Addr)) (fp : List Addr), PE (X.blk s H scope (compEnvC scope cl C X.env) fp) kx tk)
    (plain : ∀ x, foldedSetIterable iter X.env x = pure x := by intro _; rfl) : PS X (.Assign [.Name y py] (.DictComp kx (.Constant (.bool true) k9 p9) [⟨tg, iter, [], 0⟩] scope pos) spos) (tAsg (tDcN X.prog X.w wi g tk (own.map (·.2))) (gName i)) := by
  refine ⟨fun pins s σ H Dd I h => ?_⟩
  rw [exec_Assign_Name_used _ _ _ _ sw]
  refine wpAny_bind (wpAny_standAt (wpAny_bind ?_))
  show wpAny _ X.A (do let _ ← comprehension (.DictComp kx (.Constant (.bool true) k9 p9) [⟨tg, iter, [], 0⟩] scope pos) scope X.env (firstIterPos [⟨tg, iter, [], 0⟩] pos) newDict false (eval iter X.env) (some (assign (.Name y py) X.env))) _ _ s
  have want : tDcN X.prog X.w wi g tk (own.map (·.2)) σ H (fun x H1 => gName i x σ H1 Dd.nx) := h
  refine wpAny_bind (thn (dcN_core (Qf := fun _ s' => SP X pins Dd .next s') calm nodup I walk ok hg hk plain want fun a C s' m H' I' q hn f => ?_) fun _ s' hq => wpAny_pure (wpAny_pure hq))
  show wpAny _ _ (assign (.Name y py) X.env (.ref a)) _ _ _
  refine wpAny_assign_Name (store_ok2 (v := V.ref a) I' nodup hy (.inl loc) rfl (fun s2 I2 ⟨c, sb, hc⟩ => ?_) (.inr loc))
  obtain ⟨f0, f1, f2, f3, f4, f5⟩ := f
  have ne : C ≠ c := hc.elim (fun z => by rw [z]; exact f1) fun z e => f4 y c z e.symm
  exact ⟨m, hn.sameBut sb ne, fun h3 sb3 => ⟨_, H', I2.turned (t' := s2.toks) (fun b o hb e => (sb3.2 b hb).trans e) f0 f1 f3 f4 f5, q⟩⟩
theorem sw_trueD {kx vx : Expr} {gs : List Comprehension} {scope : Scope} {pos py : Pos} {y : Str} {l : Nat} {env : Env} (hk : env.scope.kind = .function) (hy : env.scope.names.lookup y = some .local) (hl : (py.line == pos.line) = true)
    (ha : (scope.names.any fun (n, k) => n == y && (k == .local || k == .cell)) = false) : swapsWith (.DictComp kx vx gs scope pos) (some (.Name y py)) l env = pure true := by
  have k1 : env.kindOf y = some .local := hy
  have k2 : env.blockKind = .function := by unfold Env.blockKind; rw [hk]; rfl
  unfold swapsWith
  simp only [k2, k1, ha, Expr.pos, hl]
  rfl
/-- name not in d, d such a dict -/
def tNinX (P : Program) (w : World) (ty td : TE) : TE := fun σ H Q => ty σ H fun y H1 => td σ H1 fun x H2 => ∃ a ks k, x = .ref a ∧ y = okV k ∧ H2 a = some (NdX P w a ks) ∧ Q (.bl (!decide (k ∈ ks))) H2
theorem pc_ninX {X : Cx} {o i : Expr} {td ty : TE} (hi : PE X i ty) (ho : PE X o td) : PC X .NotIn i o (tNinX X.prog X.w ty td) := by
  refine ⟨fun pins s σ H Q I h => ?_⟩
  refine thn (hi.run pins s σ H _ I h) fun iv s1 ⟨y, H1, I1, ry, q1⟩ => thn (ho.run pins s1 σ H1 _ I1 q1) fun u s2 ⟨x, H2, I2, rx, a, ks, k, ex, ey, ha, q2⟩ => ?_
  subst ex ey
  obtain rfl : u = Value.ref a := rx
  obtain ⟨⟨h1, h2⟩, _, _⟩ := I2.hok a _ ha
  refine wpAny_notIn_of (nd_key ry) h1 h2.mapOf ?_
  have hv : ∀ ls : List (Option Str), (valueAt (ls.map fun k => (nkey k, Value.bool true)) (nkey k)).isSome = decide (k ∈ ls) := by
    intro ls
    unfold valueAt
    rw [Option.isSome_map]
    induction ls with
    | nil => rfl
    | cons l ls ih =>
      rw [List.map_cons, List.find?_cons]
      by_cases e : l = k
      · subst e; simp
      · have : decide (nkey l = nkey k) = false := decide_eq_false fun q => e (nkey_inj q)
        simp only [this]
        rw [ih]
        simp [Ne.symm e]
  rw [hv ks]
  exact ⟨.bl (!decide (k ∈ ks)), H2, I2.tok _, rfl, q2⟩
end Lv

set_option Elab.async false
set_option linter.all false
set_option maxRecDepth 100000
set_option maxHeartbeats 4000000
/-! Lay14: dicts with a None key, over data. -/
namespace Lv
open PySem PySem.Spec PyProof.Rows L2 StX
section
variable {z : Cz} {Γ : Gam} {M : Mem} {tk ty td : TE} {P : D → Mem → Prop}
theorem nd_ne_code {P : Program} {w : World} {a : Addr} {ks : List (Option Str)} {q : Str} (e : NdX P w a ks = LamX.CodeO a q) : False := by
  unfold NdX LamX.CodeO at e
  have e2 := HO.ext.inj e
  have hg : (⟨Array.replicate (a + 1) { cls := .none, data := .fields #[.none, .str q 0] }, {}⟩ : Heap).get? a = some { cls := .none, data := .fields #[.none, .str q 0] } := by
    unfold Heap.get?
    simp
  have h1 : ∃ (oc : Obj) (vs : Array Value) (t : Tok), (⟨Array.replicate (a + 1) { cls := .none, data := .fields #[.none, .str q 0] }, {}⟩ : Heap).get? a = some oc ∧ oc.data = .fields vs ∧ vs[1]? = some (.str q t) := ⟨_, _, _, hg, rfl, rfl⟩
  have h2 := (congrFun e2 (⟨Array.replicate (a + 1) { cls := .none, data := .fields #[.none, .str q 0] }, {}⟩ : Heap)).mpr h1
  obtain ⟨_, o, es, ep, ho, _, hd, _⟩ := h2
  rw [hg] at ho
  cases ho
  cases hd
theorem nd_eq (z : Cz) (a : Addr) (ks : List (Option Str)) : NdX z.P z.w a ks = NdO z a ks := rfl
theorem dW_val {B : Hp} {w : Option Str} {v : V} (r : Rp z B (dW w) v) : v = okV w := by
  cases w with
  | none => exact r.non_inv
  | some s => exact r.str_inv
def nset (W : List (Option Str)) : List (Option Str) := W.foldl addN []
theorem nset_len (W : List (Option Str)) : (nset W).length ≤ W.length := by
  have : ∀ (ys acc : List (Option Str)), (ys.foldl addN acc).length ≤ acc.length + ys.length := by
    intro ys
    induction ys with
    | nil => intro acc; exact Nat.le_refl _
    | cons y ys ih =>
      intro acc
      refine Nat.le_trans (ih _) ?_
      have := addN_len acc y
      simp only [List.length_cons]
      omega
  have h := this W []
  simp only [List.length_nil, Nat.zero_add] at h
  exact h
theorem nset_mem {W : List (Option Str)} {k : Option Str} : k ∈ nset W ↔ k ∈ W := by
  have : ∀ (ys acc : List (Option Str)), k ∈ ys.foldl addN acc ↔ k ∈ acc ∨ k ∈ ys := by
    intro ys
    induction ys with
    | nil => intro acc; simp
    | cons y ys ih =>
      intro acc
      rw [List.foldl_cons, ih]
      unfold addN
      by_cases hy : y ∈ acc
      · rw [if_pos hy]
        constructor
        · rintro (h | h)
          · exact .inl h
          · exact .inr (List.mem_cons_of_mem _ h)
        · rintro (h | h)
          · exact .inl h
          · rcases List.mem_cons.mp h with e | h
            · exact .inl (e ▸ hy)
            · exact .inr h
      · rw [if_neg hy]
        simp only [List.mem_append, List.mem_cons, List.not_mem_nil, or_false, or_assoc]
  have h := this W []
  simp only [List.not_mem_nil, false_or] at h
  exact h
theorem ev_dcN {wi : TI} {g : TG} {vs : List Nat} (js : List Nat) (hj : ∀ j ∈ js, j ∈ vs)
    (h : EI z wi Γ M fun xs Gd M1 => ∃ W : List (Option Str), xs = W.map dW ∧ W.length ≤ 1000 ∧ Gd M1 ∧ (∀ (i : Nat) (w : Option Str), W[i]? = some w → EG z g js (dW w) (wipeG Γ vs) M1 fun Γ2 M2 => M2 = M1 ∧ EV z tk Γ2 M1 fun y M4 => y = dW w ∧ M4 = M1) ∧ P (.nd (nset W)) M1) :
    EV z (tDcN z.P z.w wi g tk vs) Γ M P := by
  intro B F σ H sl hs Q q
  refine h B F σ H sl hs _ fun xs Gd M1 ⟨W, ex, hz, hG, step, done⟩ J B1 H1 e1 s1 wd a ha => ?_
  subst ex
  have hF : F a = none := (s1.fresh ha).2.1
  refine ⟨fun i m H' => m = W.length - i ∧ i ≤ W.length ∧ ∃ B', Ex B1 B' ∧ Hs z B' (upd F a (NdX z.P z.w a (nset (W.take i)))) M1 H', ⟨_, rfl, Nat.zero_le _, B1, Ex.refl, s1.newF ha (fun ps e => by cases e)⟩, ?_⟩
  rintro i m H' ⟨rfl, hi, B', e2, s2⟩
  by_cases hlt : i < W.length
  · refine .inr ⟨wd.goes i B' _ M1 H' (by rw [List.length_map]; exact hlt) s2 e2 (Ex.new hF) hG, fun H'' => ∃ B', Ex B1 B' ∧ Hs z B' (upd F a (NdX z.P z.w a (nset (W.take (i + 1))))) M1 H'', fun H'' n => ⟨W.length - (i + 1), by omega, rfl, hlt, n⟩, fun v H2 y => ?_⟩
    have hw : W[i]? = some W[i] := List.getElem?_eq_getElem hlt
    obtain ⟨B2, e3, s3, r3⟩ := wd.yields i B' _ M1 H' v H2 (dW W[i]) (by rw [List.getElem?_map, hw]; rfl) s2 e2 (Ex.new hF) hG y
    have slw : Slots z B2 (wipe σ vs) (wipeG Γ vs) := (((sl.mono e1).mono e2).mono e3).wipe vs
    refine step i _ hw B2 _ (wipe σ vs) H2 v slw s3 r3 _ fun Γ2 M2 ⟨eM, h2⟩ B3 σ3 H3 e4 sl3 s4 hwi => ⟨?_, ?_⟩
    · rw [hwi vs hj, wipe_wipe σ vs vs fun _ h => h]
    · subst eM
      refine h2 B3 _ σ3 H3 sl3 s4 _ fun y M4 ⟨ey, eM4⟩ u B4 H4 e5 r5 s5 => ?_
      subst ey eM4
      refine ⟨_, W[i], dW_val r5, (s5.f a _ upd_same).1, ?_, B4, ((e2.trans e3).trans e4).trans e5, ?_⟩
      · have := nset_len (W.take i)
        rw [List.length_take] at this
        simp only [sizeLine]
        omega
      · have e6 : nset (W.take (i + 1)) = addN (nset (W.take i)) W[i] := foldl_take_succ hw
        rw [e6]
        obtain ⟨f1, f2, f3⟩ := s5.f a _ upd_same
        have s6 : Hs z B4 (upd (upd F a (NdX z.P z.w a (nset (W.take i)))) a (NdX z.P z.w a (addN (nset (W.take i)) W[i]))) M4 (upd H4 a (NdX z.P z.w a (addN (nset (W.take i)) W[i]))) := by
          refine ⟨fun b o qq => ?_, fun b o qq => ?_, fun b o qq => ?_, s5.nb, fun b ps qq => ?_, fun p hp' => ?_⟩
          · rw [upd_ne (ne_of_none qq f2)]; exact s5.b b o qq
          · by_cases hb : b = a
            · subst hb; rw [upd_same] at qq ⊢; exact ⟨qq, f2, f3⟩
            · rw [upd_ne hb] at qq ⊢; exact s5.f b o qq
          · rw [upd_ne (mne qq f3)]; exact s5.m b o qq
          · by_cases hb : b = a
            · subst hb; rw [upd_same] at qq; cases qq
            · rw [upd_ne hb] at qq; exact s5.nf b ps qq
          · obtain ⟨ps, a1, a2, a3⟩ := s5.tb p hp'
            have n1 : p.1 ≠ a := fun e => by rw [e, f1] at a1; cases a1
            refine ⟨ps, by rw [upd_ne n1]; exact a1, a2, fun pos cv hc => ?_⟩
            obtain ⟨c, c1, c2⟩ := a3 pos cv hc
            refine ⟨c, c1, ?_⟩
            by_cases hca : c = a
            · exfalso
              subst hca
              rw [f1] at c2
              have c2' := Option.some.inj c2
              exact nd_ne_code c2'
            · rw [upd_ne hca]; exact c2
        rw [upd_upd] at s6
        exact s6
  · have ei : i = W.length := by omega
    subst ei
    refine .inl ⟨?_, ?_⟩
    · have := wd.stops B' _ M1 H' s2 e2 (Ex.new hF) hG
      rw [List.length_map] at this
      exact this
    have hp : upd F a (NdX z.P z.w a (nset (W.take W.length))) a = some (NdX z.P z.w a (nset (W.take W.length))) := upd_same
    obtain ⟨s3, e3⟩ := s2.ofFB hp
    rw [hdel_upd hF] at s3
    rw [List.take_length] at s3 e3
    exact q _ M1 done _ _ H' ((e1.trans e2).trans e3) (.nd (by rw [upd_same]; rfl)) s3
theorem et_nin {P : Bool → Mem → Prop} (h : EV z ty Γ M fun e M1 => EV z td Γ M1 fun d M2 => ∃ ks s, d = .nd ks ∧ e = .str s ∧ P (!decide (some s ∈ ks)) M2) : ET z (tB (tNinX z.P z.w ty td)) Γ M P :=
  fun B F σ H sl hs Q q => h B F σ H sl hs _ fun e M1 h1 v B1 H1 e1 r1 s1 => h1 B1 F σ H1 (sl.mono e1) s1 _ fun d M2 ⟨ks, s, ed, ee, k⟩ w B2 H2 e2 r2 s2 => by
    subst ed ee
    cases r2 with
    | nd hb =>
      have := r1.str_inv
      subst this
      exact ⟨_, ks, some s, rfl, rfl, s2.b _ _ hb, _, rfl, q _ M2 k B2 H2 (e1.trans e2) s2⟩
end
end Lv

set_option Elab.async false
set_option linter.all false
set_option maxRecDepth 100000
set_option maxHeartbeats 4000000
set_option pp.maxSteps 400
set_option pp.deepTerms false
namespace Lv
open PySem PySem.Spec PyProof.Rows L2 StX
local macro_rules
  | `(tactic| walk_at "lv1") => `(tactic| with_reducible (first
    | refine s_set ?_ | refine s_ret ?_ | refine s_if ?_ | refine s_drop ?_ | refine s_next ?_ | refine s_par ?_ | refine s_par3 ?_ | refine s_subL ?_ | refine s_unl2 ?_ | refine s_tup2 ?_ | refine eg_unl2 ?_ | refine eg_unl3 ?_ | refine eg_tup2 ?_
    | refine ev_var rfl ?_ | refine ev_int ?_ | refine ev_str ?_ | refine ev_bl ?_ | refine ev_non ?_ | refine ev_ref ?_
    | refine ev_lst0 ?_ | refine ev_eqE ?_ | refine ev_neE ?_ | refine ev_op ?_ | refine ev_un ?_ | refine ev_isiLT ?_ | refine ev_isi ?_ | refine ev_cb ?_ | refine ev_chain ?_ | refine ev_andV ?_ | refine ev_orV ?_ | refine ev_notV ?_ | refine ev_if ?_ | refine ev_tup ?_ | refine ev_call ?_
    | refine et_and ?_ | refine et_or ?_ | refine et_not ?_ | refine et_test ?_ | refine et_b ?_ | refine et_yes ?_
    | refine ea_cons ?_ | refine ea_nil ?_
    | refine g_int2 ?_ | refine g_bl ?_ | refine g_int ?_ | refine g_addI ?_ | refine g_eqI ?_ | refine g_eqSt ?_ | refine g_eqSf (by decide +kernel) ?_ | refine g_eqS ?_ | refine g_eqIS ?_ | refine g_eqSI ?_ | refine g_eqNS ?_ | refine g_isn ?_
    | refine g_par ?_ | refine g_par3 ?_ | refine g_neg ?_
    | refine g_ifT ?_ | refine g_ifNT ?_ | refine g_ifNF ?_ | refine g_ifF ?_ | refine g_ifD ?_ ?_ | refine g_ifDN ?_ ?_
    | refine eg_name ?_ | refine eg_setL ?_))
local macro_rules
  | `(tactic| walk_at "lvM") => `(tactic| first | assumption | exact mupd_same)
local macro_rules
  | `(tactic| walk_at "lvW") => `(tactic| with_unfolding_all rfl)
local macro_rules
  | `(tactic| walk_at "lvA") => `(tactic| first | with_unfolding_all rfl | with_unfolding_all exact atI_nat 0 rfl | with_unfolding_all exact atI_nat 1 rfl)
local macro_rules
  | `(tactic| walk_at "lv2") => `(tactic| with_reducible (first
    | refine ⟨_, _, (by walk_at "lvW"), kb_ii, ?_⟩ | refine ⟨_, _, (by walk_at "lvW"), kb_ib, ?_⟩ | refine ⟨_, _, (by walk_at "lvW"), kb_is, ?_⟩ | refine ⟨_, _, (by walk_at "lvW"), kb_ss, ?_⟩ | refine ⟨_, _, (by walk_at "lvW"), kb_tt, ?_⟩
    | refine .inl ⟨_, _, rfl, IsS.q, ?_⟩ | refine .inl ⟨_, _, rfl, IsS.r (by walk_at "lvM"), ?_⟩ | refine .inl ⟨_, _, rfl, IsS.sc, ?_⟩
    | refine .inl ⟨_, _, IsS.q, (by walk_at "lvA"), ?_⟩ | refine .inl ⟨_, _, IsS.r (by walk_at "lvM"), (by walk_at "lvA"), ?_⟩
    | refine .inl (g_int2 (And.intro (CMul.l (by omega) (by omega)) ?_)) | refine .inl (g_int2 (And.intro (CMul.r (by omega) (by omega)) ?_))
    | refine And.intro (CDiv.mk (by omega) (by omega)) ?_ | refine And.intro (by omega) ?_ | refine And.intro (Nat.le_of_ble_eq_true (by walk_at "lvW")) ?_
    | refine .inl ⟨_, _, rfl, ?_⟩
    | refine .inl ⟨_, rfl, ?_⟩ | refine .inr ⟨_, rfl, ?_⟩
    | refine ⟨_, _, _, _, rfl, (by walk_at "lvM"), rfl, (by walk_at "lvW"), ?_⟩
    | refine ⟨_, _, rfl, IsL.q, ?_⟩
    | refine ⟨_, rfl, .inl ⟨_, _, IsS.q, (by walk_at "lvA"), ?_⟩⟩))
local macro_rules
  | `(tactic| walk_at "lvm") => `(tactic| repeat' (first | walk_at "lv1" | (with_reducible refine s_seq ?_) | walk_at "lv2" | dsimp only))
local macro_rules
  | `(tactic| walk_at "lve") => `(tactic| repeat' (first | walk_at "lv1" | (with_reducible refine ev_lst ?_) | walk_at "lv2" | dsimp only))
local macro_rules
  | `(tactic| walk_at "lv") => `(tactic| repeat' (first | walk_at "lv1" | (with_reducible refine ev_lst ?_) | (with_reducible refine s_seq ?_) | walk_at "lv2" | dsimp only))
local macro_rules
  | `(tactic| walk_at "lve0") => `(tactic| repeat' (first
    | (with_reducible first | refine ev_var rfl ?_ | refine ev_int ?_ | refine ev_str ?_ | refine et_test ?_ | refine ev_eqE ?_ | refine ev_op ?_ | refine g_bl ?_ | refine g_eqI ?_ | refine g_eqSt ?_ | refine g_eqSf (by decide +kernel) ?_ | refine g_eqS ?_ | refine g_int ?_ | refine g_ifT ?_ | refine g_ifF ?_ | refine g_ifD ?_ ?_) | walk_at "lv2" | dsimp only))
local macro_rules
  | `(tactic| walk_at "lvx") => `(tactic| repeat' (first | (refine fun hx => absurd hx ?_; (with_reducible fail_if_success assumption); simp; done) | (refine fun _ => ?_; walk_at "lv")))
def lt (j : Nat) : Str := ⟨#[abc.cps.toList.getD j 0]⟩
def wordN (i : Nat) : Str := if i < 26 then lt i ++ "" else lt ((i - 26) / 26) ++ (lt ((i - 26) % 26) ++ "")
def wl : List Str := (List.range 78).map wordN
theorem abc_at {j : Int} (h0 : 0 ≤ j) (h : j < 26) : atI abc.cps.toList j = some (abc.cps.toList.getD j.toNat 0) := by
  have e : j = (j.toNat : Int) := by omega
  rw [e]
  have hl : abc.cps.toList.length = 26 := by decide +kernel
  unfold atI ixN
  rw [if_pos (by omega), if_pos (by rw [hl]; omega)]
  rw [Option.bind_some, Int.toNat_natCast, List.getD_eq_getElem?_getD, List.getElem?_eq_getElem (by rw [hl]; omega)]
  rfl
theorem s_tup3 {z : Cz} {Γ : Gam} {M : Mem} {te : TE} {E : PN} {i j l : Nat} (h : EV z te Γ M fun d M1 => ∃ a b c, d = .sq false [a, b, c] ∧ E.nx (((Γ.set i (some a)).set j (some b)).set l (some c)) M1) : EVS z (tAsg te (gTup z.K 3 (gCons (gName i) (gCons (gName j) (gCons (gName l) gNil))))) Γ M E :=
  s_asg (js := [i, j, l]) (h.imp fun d M1 ⟨a, b, c, e, q⟩ => by
    subst e
    exact eg_tup (js := [i, j, l]) rfl (egs_cons (js := [i]) (ks := [j, l]) (eg_name (egs_cons (js := [j]) (ks := [l]) (eg_name (egs_cons (js := [l]) (ks := []) (eg_name (egs_nil q))))))))
def W_name_at : Fw := fun ds M P => ∃ i : Nat, ds = [.int (i : Nat)] ∧ i < 78 ∧ P (.str (wordN i)) M
def N_name_at : List Str := ["place", "size", "first", "many", "left", "signs", "turn"]
def P_name_at : List Str := ["place"]
theorem sc_name_at : FnScope N_name_at P_name_at (defScope s_name_at) := ⟨rfl, rfl, rfl, by decide +kernel, rfl, by decide +kernel, by decide +kernel⟩
theorem h_name_at {z : Cz} {mg : Str → Option Value} {base : Heap} {CF CT : Addr} (G : Gf z mg CF CT) (Dd : Df z mg "name_at" s_name_at)  : Has z mg base "name_at" P_name_at (0 + 1) (W_name_at) := by
  refine okDf Dd sc_name_at (fun _ _ _ _ _ _ us hl => match us, hl with | [_], _ => rfl) (fun ds M P hw => ?_) (fun f cdv A outer s H E hr ds M P hw => ?_)
  · obtain ⟨i, rfl, _⟩ := hw
    rfl
  obtain ⟨i, rfl, hi, k⟩ := hw
  refine ⟨_, (pss_cons (ps_asg (pe_tup (pa_cons pe_int (pa_cons pe_int (pa_cons pe_int pa_nil)))) (zg_tup (n := 3) z (pgs_cons (pg_name (i := 1) sc_name_at.nd rfl (.inl rfl)) (pgs_cons (pg_name (i := 2) sc_name_at.nd rfl (.inl rfl)) (pgs_cons (pg_name (i := 3) sc_name_at.nd rfl (.inl rfl)) pgs_nil))))) (pss_cons (ps_while PassesOwn.never (pt_cmpR ox_ge (pv 0) (pe_op ox_add (pv 2) (pv 3)) (nomark _)) (pss_one (ps_par3 (i := 2) (j := 3) (l := 1) rfl sc_name_at.nd rfl rfl rfl (by decide) (by decide) (by decide) rfl rfl rfl (pa_cons (pe_op ox_add (pv 2) (pv 3)) (pa_cons (pe_op ox_mul (pv 3) pe_int) (pa_cons (pe_op ox_add (pv 1) pe_int) pa_nil))) (by rfl)))) (pss_cons (ps_par (i := 4) (j := 5) rfl sc_name_at.nd rfl rfl (by decide) rfl rfl (pa_cons (pe_op ox_sub (pv 0) (pv 2)) (pa_cons pe_str pa_nil)) (by rfl)) (pss_cons (ps_for PassesOwn.never rfl (pi_range1 rfl G.range (pa_cons (pv 1) pa_nil)) (pg_name (i := 6) sc_name_at.nd rfl (.inl rfl)) (pss_cons (ps_set (i := 5) sc_name_at.nd rfl (.inl rfl) (pe_op ox_add (zx_ix z (px_gstr G.letters rfl) (pe_op ox_mod (pv 4) pe_int)) (pv 5))) (pss_one (ps_aug (i := 4) sc_name_at.nd rfl (.inl rfl) pe_int ip_fdU)))) (pss_one (ps_ret (pv 5))))))), ?_⟩
  refine s_seq (s_tup3 ?_)
  walk_at "lve"
  refine ⟨_, _, _, rfl, ?_⟩
  refine s_seq (s_while (fun m γ M' => M' = M ∧ ((m = 1 ∧ γ = [some (.int (i : Nat)), some (.int 1), some (.int 0), some (.int 26), none, none, none]) ∨ (m = 0 ∧ 26 ≤ i ∧ γ = [some (.int (i : Nat)), some (.int 2), some (.int 26), some (.int 676), none, none, none]))) 1 ⟨rfl, .inl ⟨rfl, rfl⟩⟩ ?_)
  rintro m γ M' ⟨rfl, ⟨rfl, rfl⟩ | ⟨rfl, h26, rfl⟩⟩
  · walk_at "lve"
    · intro hb'
      walk_at "lve"
      exact ⟨0, by omega, rfl, .inr ⟨rfl, by omega, rfl⟩⟩
    · intro hb'
      have hlt : i < 26 := by omega
      refine s_seq ?_
      walk_at "lve"
      refine s_seq (s_for (js := [6]) (ei_rng ?_))
      walk_at "lve"
      refine ⟨1, rfl, by omega, by omega, fun j γ m => m = M' ∧ ((j = 0 ∧ γ = [some (.int (i : Nat)), some (.int 1), some (.int 0), some (.int 26), some (.int (i - 0)), some (.str ""), none]) ∨ (j = 1 ∧ ∃ c d, γ = [some (.int (i : Nat)), some (.int 1), some (.int 0), some (.int 26), c, some (.str (wordN i)), d])), ⟨rfl, .inl ⟨rfl, rfl⟩⟩, fun _ _ _ _ _ => trivial, ?_, ?_⟩
      · rintro j x γ m hx ⟨rfl, ⟨rfl, rfl⟩ | ⟨rfl, _⟩⟩
        · refine eg_name (s_seq (s_set (ev_op (ev_op (ev_str ?_)))))
          walk_at "lve"
          refine .inr ⟨_, _, rfl, by decide +kernel, abc_at (j := ((i : Nat) - 0 : Int) % 26) (by omega) (by omega), ?_⟩
          walk_at "lve"
          refine .inr (.inl ⟨_, _, rfl, rfl, by simp only [sizeLine]; exact Nat.le_of_ble_eq_true rfl, ?_⟩)
          refine s_augFd rfl (ev_int ⟨26, rfl, ⟨by decide, by decide⟩, ?_⟩)
          refine ⟨rfl, .inr ⟨rfl, some (.int (((i : Nat) - 0 : Int) / 26)), some x, ?_⟩⟩
          have e1 : (((i : Nat) - 0 : Int) % 26).toNat = i := by omega
          rw [e1]
          unfold wordN
          rw [if_pos hlt]
          rfl
        · simp [rgD] at hx
      · rintro γ m ⟨rfl, ⟨hj, _⟩ | ⟨_, c, d, rfl⟩⟩
        · simp [rgD] at hj
        · walk_at "lve"
          exact k
  · walk_at "lve"
    · intro hb'
      exfalso
      omega
    · intro hb'
      refine s_seq ?_
      walk_at "lve"
      refine s_seq (s_for (js := [6]) (ei_rng ?_))
      walk_at "lve"
      refine ⟨2, rfl, by omega, by omega, fun j γ m => m = M' ∧ ((j = 0 ∧ γ = [some (.int (i : Nat)), some (.int 2), some (.int 26), some (.int 676), some (.int (i - 26)), some (.str ""), none]) ∨ (j = 1 ∧ ∃ d, γ = [some (.int (i : Nat)), some (.int 2), some (.int 26), some (.int 676), some (.int ((i - 26) / 26)), some (.str (lt ((i - 26) % 26) ++ "")), d]) ∨ (j = 2 ∧ ∃ c d, γ = [some (.int (i : Nat)), some (.int 2), some (.int 26), some (.int 676), c, some (.str (wordN i)), d])), ⟨rfl, .inl ⟨rfl, rfl⟩⟩, fun _ _ _ _ _ => trivial, ?_, ?_⟩
      · rintro j x γ m hx ⟨rfl, ⟨rfl, rfl⟩ | ⟨rfl, d, rfl⟩ | ⟨rfl, _⟩⟩
        · refine eg_name (s_seq (s_set (ev_op (ev_op (ev_str ?_)))))
          walk_at "lve"
          refine .inr ⟨_, _, rfl, by decide +kernel, abc_at (j := ((i : Nat) - 26 : Int) % 26) (by omega) (by omega), ?_⟩
          walk_at "lve"
          refine .inr (.inl ⟨_, _, rfl, rfl, by simp only [sizeLine]; exact Nat.le_of_ble_eq_true rfl, ?_⟩)
          refine s_augFd rfl (ev_int ⟨26, rfl, ⟨by decide, by decide⟩, ?_⟩)
          refine ⟨rfl, .inr (.inl ⟨rfl, some x, ?_⟩)⟩
          have e1 : (((i : Nat) - 26 : Int) % 26).toNat = (i - 26) % 26 := by omega
          rw [e1]
          rfl
        · refine eg_name (s_seq (s_set (ev_op (ev_op (ev_str ?_)))))
          walk_at "lve"
          refine .inr ⟨_, _, rfl, by decide +kernel, abc_at (j := (((i : Nat) - 26 : Int) / 26) % 26) (by omega) (by omega), ?_⟩
          walk_at "lve"
          refine .inr (.inl ⟨_, _, rfl, rfl, by simp only [sizeLine]; exact Nat.le_of_ble_eq_true rfl, ?_⟩)
          refine s_augFd rfl (ev_int ⟨26, rfl, ⟨by decide, by decide⟩, ?_⟩)
          refine ⟨rfl, .inr (.inr ⟨rfl, some (.int (((i : Nat) - 26 : Int) / 26 / 26)), some x, ?_⟩)⟩
          have e1 : ((((i : Nat) - 26 : Int) / 26) % 26).toNat = (i - 26) / 26 := by omega
          rw [e1]
          unfold wordN
          rw [if_neg (by omega)]
          rfl
        · simp [rgD] at hx
      · rintro γ m ⟨rfl, ⟨hj, _⟩ | ⟨hj, _⟩ | ⟨_, c, d, rfl⟩⟩
        · simp [rgD] at hj
        · simp [rgD] at hj
        · walk_at "lve"
          exact k
def freshW (ks : List (Option Str)) : List Str := wl.filter fun s => !decide (some s ∈ ks)
def W_first_names : Fw := fun ds M P => ∃ (n : Nat) (ks : List (Option Str)), ds = [.int (n : Nat), .nd ks] ∧ n ≤ (freshW ks).length ∧ ∀ p, M p = none → P (.ref p) (mupd M p (.lst (((freshW ks).take n).map D.str)))
def N_first_names : List Str := ["many", "shut", "found", "place", "name"]
def P_first_names : List Str := ["many", "shut"]
theorem sc_first_names : FnScope N_first_names P_first_names (defScope s_first_names) := ⟨rfl, rfl, rfl, by decide +kernel, rfl, by decide +kernel, by decide +kernel⟩
theorem h_first_names {z : Cz} {mg : Str → Option Value} {base : Heap} {CF CT : Addr} (G : Gf z mg CF CT) (Dd : Df z mg "first_names" s_first_names) (H_name_at : Has z mg base "name_at" P_name_at 1 W_name_at) : Has z mg base "first_names" P_first_names (1 + 1) (W_first_names) := by
  refine okDf Dd sc_first_names (fun _ _ _ _ _ _ us hl => match us, hl with | [_, _], _ => rfl) (fun ds M P hw => ?_) (fun f cdv A outer s H E hr ds M P hw => ?_)
  · obtain ⟨n, ks, rfl, _⟩ := hw
    rfl
  obtain ⟨n, ks, rfl, hn, k⟩ := hw
  refine ⟨_, (pss_cons (ps_par (i := 2) (j := 3) rfl sc_first_names.nd rfl rfl (by decide) rfl rfl (pa_cons (pe_lst pa_nil) (pa_cons pe_int pa_nil)) (by rfl)) (pss_cons (ps_while PassesOwn.never (pt_cmpR ox_lt (pe_callB (zc_len z) rfl G.len boot_len (pa_cons (pv 2) pa_nil)) (pv 0) (nomark _)) (pss_cons (ps_set (i := 4) sc_first_names.nd rfl (.inl rfl) (px_call H_name_at (hr.mono (by omega)) rfl (pa_cons (pv 3) pa_nil))) (pss_cons (ps_if (pt_cmp (pc_ninX (pv 4) (pv 1))) (pss_one (ps_expr (zx_bm z PySem.F.plainAttrs_list PySem.F.slot_list_append PySem.F.type_list_append xm_append (pv 2) (pa_cons (pv 4) pa_nil)))) pss_nil) (pss_one (ps_aug (i := 3) sc_first_names.nd rfl (.inl rfl) pe_int ip_addU))))) (pss_one (ps_ret (pv 2))))), ?_⟩
  walk_at "lve"
  refine s_seq ?_
  walk_at "lve"
  intro p hp
  walk_at "lve"
  have hwl : wl.length = 78 := by decide +kernel
  refine s_seq (s_while (fun m γ M' => ∃ (i : Nat) (c : Option D), m = 78 - i ∧ i ≤ 78 ∧ γ = [some (.int (n : Nat)), some (.nd ks), some (.ref p), some (.int (i : Nat)), c] ∧ M' = mupd M p (.lst (((wl.take i).filter fun s => !decide (some s ∈ ks)).map D.str)) ∧ ((wl.take i).filter fun s => !decide (some s ∈ ks)).length ≤ n) 78 ⟨0, none, rfl, by omega, rfl, rfl, by simp⟩ ?_)
  rintro m γ M' ⟨i, c, rfl, hi, rfl, rfl, hle⟩
  generalize hf : ((wl.take i).filter fun s => !decide (some s ∈ ks)) = found at hle ⊢
  walk_at "lve"
  · intro hb'
    rw [List.length_map] at hb'
    have hlt : i < 78 := by
      rcases Nat.lt_or_ge i 78 with h | h
      · exact h
      · exfalso
        have e : i = 78 := by omega
        subst e
        have e2 : wl.take 78 = wl := List.take_of_length_le (by omega)
        rw [e2] at hf
        have : freshW ks = found := hf
        rw [this] at hn
        omega
    have hwi : wl[i]? = some (wordN i) := by
      unfold wl
      rw [List.getElem?_map, List.getElem?_range hlt]
      rfl
    have htk : ((wl.take (i + 1)).filter fun s => !decide (some s ∈ ks)) = found ++ (if (!decide (some (wordN i) ∈ ks)) = true then [wordN i] else []) := by rw [filter_take_succ hwi, hf]
    refine s_seq (s_set (ev_call (ea_cons (ev_var rfl (ea_nil ⟨i, rfl, hlt, ?_⟩)))))
    refine s_seqI (fun γ m => γ = [some (.int (n : Nat)), some (.nd ks), some (.ref p), some (.int (i : Nat)), some (.str (wordN i))] ∧ m = mupd M p (.lst (((wl.take (i + 1)).filter fun s => !decide (some s ∈ ks)).map D.str))) ?_ ?_
    · refine s_if (et_nin (ev_var rfl (ev_var rfl ⟨ks, wordN i, rfl, rfl, fun h1 => ?_, fun h1 => ?_⟩)))
      · refine s_drop (ev_bm (ev_var rfl ⟨⟨_, .inl ⟨p, rfl, mupd_same⟩⟩, ea_cons (ev_var rfl (ea_nil ⟨p, _, rfl, mupd_same, _, rfl, ?_, rfl, ?_⟩))⟩))
        · rw [List.length_map, ← hf]
          refine Nat.lt_of_le_of_lt (List.length_filter_le _ _) ?_
          rw [List.length_take]
          simp only [sizeLine]
          omega
        · rw [mupd_mupd, htk, if_pos h1, List.map_append]; rfl
      · refine s_next ⟨rfl, ?_⟩
        rw [htk, if_neg (by rw [h1]; simp), List.append_nil]
    · rintro γ m ⟨rfl, rfl⟩
      refine s_augAdd rfl (ev_int ⟨1, rfl, 78 - (i + 1), by omega, i + 1, some (.str (wordN i)), rfl, by omega, ?_, rfl, ?_⟩)
      · have : (((i + 1 : Nat)) : Int) = (i : Int) + 1 := by omega
        rw [this]; rfl
      · rw [htk, List.length_append]
        split <;> simp <;> omega
  · intro hb'
    rw [List.length_map] at hb'
    have hfl : found.length = n := by omega
    refine s_ret (ev_var rfl ?_)
    have : found = (freshW ks).take n := by
      have e : freshW ks = found ++ ((wl.drop i).filter fun s => !decide (some s ∈ ks)) := by
        unfold freshW
        rw [← hf, ← List.filter_append, List.take_append_drop]
      rw [e, ← hfl, List.take_left]
    rw [this]
    exact k p hp
end Lv

set_option Elab.async false
set_option linter.all false
set_option maxRecDepth 100000
set_option maxHeartbeats 4000000
/-! Sc4: live lists. -/
namespace Lv
open PySem PySem.Spec PyProof.Rows L2
def uq {α : Type} [DecidableEq α] (xs : List α) : List α := xs.foldl (fun acc x => if x ∈ acc then acc else acc ++ [x]) []
section
variable {α β : Type} [DecidableEq α] [DecidableEq β]
theorem uq_snoc (xs : List α) (x : α) : uq (xs ++ [x]) = if x ∈ uq xs then uq xs else uq xs ++ [x] := by
  unfold uq
  rw [List.foldl_append]
  rfl
theorem uq_take {xs : List α} {i : Nat} {x : α} (h : xs[i]? = some x) : uq (xs.take (i + 1)) = if x ∈ uq (xs.take i) then uq (xs.take i) else uq (xs.take i) ++ [x] := by
  rw [List.take_add_one, h]
  exact uq_snoc _ _
theorem uq_mem {xs : List α} {x : α} : x ∈ uq xs ↔ x ∈ xs := by
  have : ∀ (ys acc : List α), x ∈ ys.foldl (fun acc x => if x ∈ acc then acc else acc ++ [x]) acc ↔ x ∈ acc ∨ x ∈ ys := by
    intro ys
    induction ys with
    | nil => intro acc; simp
    | cons y ys ih =>
      intro acc
      rw [List.foldl_cons, ih]
      by_cases hy : y ∈ acc
      · rw [if_pos hy]
        constructor
        · rintro (h | h)
          · exact .inl h
          · exact .inr (List.mem_cons_of_mem _ h)
        · rintro (h | h)
          · exact .inl h
          · rcases List.mem_cons.mp h with e | h
            · exact .inl (e ▸ hy)
            · exact .inr h
      · rw [if_neg hy]
        simp only [List.mem_append, List.mem_cons, List.not_mem_nil, or_false, or_assoc]
  have h := this xs []
  simp only [List.not_mem_nil, false_or] at h
  exact h
theorem uq_len (xs : List α) : (uq xs).length ≤ xs.length := by
  have : ∀ (ys acc : List α), (ys.foldl (fun acc x => if x ∈ acc then acc else acc ++ [x]) acc).length ≤ acc.length + ys.length := by
    intro ys
    induction ys with
    | nil => intro acc; simp
    | cons y ys ih =>
      intro acc
      refine Nat.le_trans (ih _) ?_
      dsimp only
      split <;> simp <;> omega
  have h := this xs []
  rw [List.length_nil, Nat.zero_add] at h
  exact h
theorem uq_nodup (xs : List α) : (uq xs).Nodup := by
  have : ∀ (ys acc : List α), acc.Nodup → (ys.foldl (fun acc x => if x ∈ acc then acc else acc ++ [x]) acc).Nodup := by
    intro ys
    induction ys with
    | nil => intro acc h; exact h
    | cons y ys ih =>
      intro acc h
      refine ih _ ?_
      dsimp only
      split
      · exact h
      · rename_i hy
        exact List.nodup_append.mpr ⟨h, by simp, fun a ha b hb => by simp at hb; subst hb; intro e; subst e; exact hy ha⟩
  exact this xs [] List.nodup_nil
theorem uq_filterMap {f : α → Option β} (inj : ∀ a b c, f a = some c → f b = some c → a = b) (xs : List α) : (uq xs).filterMap f = uq (xs.filterMap f) := by
  have : ∀ (ys acc : List α), (ys.foldl (fun acc x => if x ∈ acc then acc else acc ++ [x]) acc).filterMap f = (ys.filterMap f).foldl (fun acc x => if x ∈ acc then acc else acc ++ [x]) (acc.filterMap f) := by
    intro ys
    induction ys with
    | nil => intro acc; rfl
    | cons y ys ih =>
      intro acc
      rw [List.foldl_cons, ih]
      cases hf : f y with
      | none =>
        rw [List.filterMap_cons_none hf]
        split
        · rfl
        · rw [List.filterMap_append, List.filterMap_cons_none hf, List.filterMap_nil, List.append_nil]
      | some c =>
        rw [List.filterMap_cons_some hf, List.foldl_cons]
        have hm : y ∈ acc ↔ c ∈ acc.filterMap f := by
          rw [List.mem_filterMap]
          constructor
          · intro h; exact ⟨y, h, hf⟩
          · rintro ⟨a, ha, he⟩
            rw [inj y a c hf he]; exact ha
        by_cases hy : y ∈ acc
        · rw [if_pos hy, if_pos (hm.mp hy)]
        · rw [if_neg hy, if_neg (fun h => hy (hm.mpr h)), List.filterMap_append, List.filterMap_cons_some hf, List.filterMap_nil]
  exact this xs []
end
def intOf : Key → Option Int
  | .inl i => some i
  | .inr _ => none
def strOf : Key → Option Str
  | .inl _ => none
  | .inr s => some s
def isort (ns : List Int) : List Int := ns.mergeSort fun a b => decide (a ≤ b)
theorem isort_eq {ns ns' : List Int} (hp : ns'.Perm ns) (hs : ns'.Pairwise (· ≤ ·)) : ns' = isort ns := by
  refine List.Perm.eq_of_pairwise (le := fun a b => a ≤ b) (fun a b _ _ h1 h2 => Int.le_antisymm h1 h2) hs ?_ (hp.trans (List.mergeSort_perm _ _).symm)
  have h := List.pairwise_mergeSort (le := fun (a b : Int) => decide (a ≤ b)) (fun a b c h1 h2 => by simp at *; omega) (fun a b => by simp; omega) ns
  exact h.imp fun h => of_decide_eq_true h
theorem isort_mem {ns : List Int} {x : Int} : x ∈ isort ns ↔ x ∈ ns := by unfold isort; rw [List.mem_mergeSort]
theorem isort_len (ns : List Int) : (isort ns).length = ns.length := by unfold isort; rw [List.length_mergeSort]
def lineK (ks : List Key) : List Key := (isort (ks.filterMap intOf)).map .inl ++ (srt (uq (ks.filterMap strOf))).map .inr
def innK (A : List Nat) (m : Key) : List Nat := match m with
  | .inr _ => A
  | .inl i => A.filter fun c => decide (i < (c : Nat))
/-- what is met in a binder: the meanings of the uses in it that lie outside -/
def metIn (S : Scn) (us : List (Str × List Nat)) (b : Nat) : List Key := (us.filter fun u => decide (b ∈ innK u.2 (mng S.nm u))).map (mng S.nm)
def live (S : Scn) (b : Nat) : List Key := lineK (uq (metIn S S.us b))
def LV (S : Scn) : Lvs := (List.range S.nm.length).map (live S)
def free (S : Scn) : List Str := srt (uq (S.us.filterMap fun u => strOf (mng S.nm u)))
theorem lineK_mem {ks : List Key} {k : Key} : k ∈ lineK ks ↔ k ∈ ks := by
  unfold lineK
  rw [List.mem_append, List.mem_map, List.mem_map]
  cases k with
  | inl i =>
    constructor
    · rintro (⟨a, ha, e⟩ | ⟨a, _, e⟩)
      · cases e
        rw [isort_mem, List.mem_filterMap] at ha
        obtain ⟨x, hx, e⟩ := ha
        cases x with
        | inl j => cases e; exact hx
        | inr s => cases e
      · cases e
    · intro h
      exact .inl ⟨i, isort_mem.mpr (List.mem_filterMap.mpr ⟨_, h, rfl⟩), rfl⟩
  | inr s =>
    constructor
    · rintro (⟨a, _, e⟩ | ⟨a, ha, e⟩)
      · cases e
      · cases e
        have : s ∈ uq (ks.filterMap strOf) := by unfold srt at ha; rwa [List.mem_mergeSort] at ha
        obtain ⟨x, hx, e⟩ := List.mem_filterMap.mp (uq_mem.mp this)
        cases x with
        | inl j => cases e
        | inr t => cases e; exact hx
    · intro h
      refine .inr ⟨s, ?_, rfl⟩
      unfold srt
      rw [List.mem_mergeSort]
      exact uq_mem.mpr (List.mem_filterMap.mpr ⟨_, h, rfl⟩)
end Lv

set_option Elab.async false
set_option linter.all false
set_option maxRecDepth 100000
set_option maxHeartbeats 4000000
set_option pp.maxSteps 400
set_option pp.deepTerms false
namespace Lv
open PySem PySem.Spec PyProof.Rows L2 StX
local macro_rules
  | `(tactic| walk_at "lv1") => `(tactic| with_reducible (first
    | refine s_set ?_ | refine s_ret ?_ | refine s_if ?_ | refine s_drop ?_ | refine s_next ?_ | refine s_par ?_ | refine s_par3 ?_ | refine s_subL ?_ | refine s_unl2 ?_ | refine s_tup2 ?_ | refine eg_unl2 ?_ | refine eg_unl3 ?_ | refine eg_tup2 ?_
    | refine ev_var rfl ?_ | refine ev_int ?_ | refine ev_str ?_ | refine ev_bl ?_ | refine ev_non ?_ | refine ev_ref ?_
    | refine ev_lst0 ?_ | refine ev_eqE ?_ | refine ev_neE ?_ | refine ev_op ?_ | refine ev_un ?_ | refine ev_isiLT ?_ | refine ev_isi ?_ | refine ev_cb ?_ | refine ev_chain ?_ | refine ev_andV ?_ | refine ev_orV ?_ | refine ev_notV ?_ | refine ev_if ?_ | refine ev_tup ?_ | refine ev_call ?_
    | refine et_and ?_ | refine et_or ?_ | refine et_not ?_ | refine et_test ?_ | refine et_b ?_ | refine et_yes ?_
    | refine ea_cons ?_ | refine ea_nil ?_
    | refine g_int2 ?_ | refine g_bl ?_ | refine g_int ?_ | refine g_addI ?_ | refine g_eqI ?_ | refine g_eqSt ?_ | refine g_eqSf (by decide +kernel) ?_ | refine g_eqS ?_ | refine g_eqIS ?_ | refine g_eqSI ?_ | refine g_eqNS ?_ | refine g_isn ?_
    | refine g_par ?_ | refine g_par3 ?_ | refine g_neg ?_
    | refine g_ifT ?_ | refine g_ifNT ?_ | refine g_ifNF ?_ | refine g_ifF ?_ | refine g_ifD ?_ ?_ | refine g_ifDN ?_ ?_
    | refine eg_name ?_ | refine eg_setL ?_))
local macro_rules
  | `(tactic| walk_at "lvM") => `(tactic| first | assumption | exact mupd_same)
local macro_rules
  | `(tactic| walk_at "lvW") => `(tactic| with_unfolding_all rfl)
local macro_rules
  | `(tactic| walk_at "lvA") => `(tactic| first | with_unfolding_all rfl | with_unfolding_all exact atI_nat 0 rfl | with_unfolding_all exact atI_nat 1 rfl)
local macro_rules
  | `(tactic| walk_at "lv2") => `(tactic| with_reducible (first
    | refine ⟨_, _, (by walk_at "lvW"), kb_ii, ?_⟩ | refine ⟨_, _, (by walk_at "lvW"), kb_ib, ?_⟩ | refine ⟨_, _, (by walk_at "lvW"), kb_is, ?_⟩ | refine ⟨_, _, (by walk_at "lvW"), kb_ss, ?_⟩ | refine ⟨_, _, (by walk_at "lvW"), kb_tt, ?_⟩
    | refine .inl ⟨_, _, rfl, IsS.q, ?_⟩ | refine .inl ⟨_, _, rfl, IsS.r (by walk_at "lvM"), ?_⟩ | refine .inl ⟨_, _, rfl, IsS.sc, ?_⟩
    | refine .inl ⟨_, _, IsS.q, (by walk_at "lvA"), ?_⟩ | refine .inl ⟨_, _, IsS.r (by walk_at "lvM"), (by walk_at "lvA"), ?_⟩
    | refine .inl (g_int2 (And.intro (CMul.l (by omega) (by omega)) ?_)) | refine .inl (g_int2 (And.intro (CMul.r (by omega) (by omega)) ?_))
    | refine And.intro (CDiv.mk (by omega) (by omega)) ?_ | refine And.intro (by omega) ?_ | refine And.intro (Nat.le_of_ble_eq_true (by walk_at "lvW")) ?_
    | refine .inl ⟨_, _, rfl, ?_⟩
    | refine .inl ⟨_, rfl, ?_⟩ | refine .inr ⟨_, rfl, ?_⟩
    | refine ⟨_, _, _, _, rfl, (by walk_at "lvM"), rfl, (by walk_at "lvW"), ?_⟩
    | refine ⟨_, _, rfl, IsL.q, ?_⟩
    | refine ⟨_, rfl, .inl ⟨_, _, IsS.q, (by walk_at "lvA"), ?_⟩⟩))
local macro_rules
  | `(tactic| walk_at "lvm") => `(tactic| repeat' (first | walk_at "lv1" | (with_reducible refine s_seq ?_) | walk_at "lv2" | dsimp only))
local macro_rules
  | `(tactic| walk_at "lve") => `(tactic| repeat' (first | walk_at "lv1" | (with_reducible refine ev_lst ?_) | walk_at "lv2" | dsimp only))
local macro_rules
  | `(tactic| walk_at "lv") => `(tactic| repeat' (first | walk_at "lv1" | (with_reducible refine ev_lst ?_) | (with_reducible refine s_seq ?_) | walk_at "lv2" | dsimp only))
local macro_rules
  | `(tactic| walk_at "lve0") => `(tactic| repeat' (first
    | (with_reducible first | refine ev_var rfl ?_ | refine ev_int ?_ | refine ev_str ?_ | refine et_test ?_ | refine ev_eqE ?_ | refine ev_op ?_ | refine g_bl ?_ | refine g_eqI ?_ | refine g_eqSt ?_ | refine g_eqSf (by decide +kernel) ?_ | refine g_eqS ?_ | refine g_int ?_ | refine g_ifT ?_ | refine g_ifF ?_ | refine g_ifD ?_ ?_) | walk_at "lv2" | dsimp only))
local macro_rules
  | `(tactic| walk_at "lvx") => `(tactic| repeat' (first | (refine fun hx => absurd hx ?_; (with_reducible fail_if_success assumption); simp; done) | (refine fun _ => ?_; walk_at "lv")))
theorem uniq_uq (xs : List Str) : uniq xs = uq xs := by
  unfold uniq uq
  congr 1
theorem s_lockSet {z : Cz} {Γ : Gam} {M : Mem} {te : TE} {E : PN} {j : Nat} (h : EV z (tLockE te) Γ M fun d M1 => E.nx (Γ.set j (some d)) M1) : EVS z (tLock (tAsg te (gName j))) Γ M E := fun B F σ H Dd sl hs l => by
  have := h B F σ H sl hs (fun v H' => Dd.nx (σ.set j (some v)) H') (fun d M1 h1 v B1 H1 e1 r1 s1 => l.nx _ _ h1 B1 _ H1 e1 ((sl.mono e1).set r1 j) s1)
  exact this
theorem strs_eq {α : Type} (us : List α) (f : α → Key) : (us.filter fun u => (strOf (f u)).isSome).map (fun u => kD (f u)) = (us.filterMap fun u => strOf (f u)).map D.str := by
  induction us with
  | nil => rfl
  | cons u us ih =>
    cases q : f u with
    | inl i => rw [List.filter_cons_of_neg (by rw [q]; simp [strOf]), List.filterMap_cons_none (by rw [q]; rfl)]; exact ih
    | inr s => rw [List.filter_cons_of_pos (by rw [q]; rfl), List.filterMap_cons_some (b := s) (by rw [q]; rfl), List.map_cons, List.map_cons, ih, q]; rfl
theorem ints_eq {α : Type} (us : List α) (f : α → Key) : (us.filter fun u => (intOf (f u)).isSome).map (fun u => kD (f u)) = (us.filterMap fun u => intOf (f u)).map D.int := by
  induction us with
  | nil => rfl
  | cons u us ih =>
    cases q : f u with
    | inr i => rw [List.filter_cons_of_neg (by rw [q]; simp [intOf]), List.filterMap_cons_none (by rw [q]; rfl)]; exact ih
    | inl s => rw [List.filter_cons_of_pos (by rw [q]; rfl), List.filterMap_cons_some (b := s) (by rw [q]; rfl), List.map_cons, List.map_cons, ih, q]; rfl
theorem mng_str {nm : List Str} {u : Str × List Nat} {s : Str} (h : mng nm u = .inr s) : s = u.1 := by
  unfold mng at h
  split at h
  · cases h
  · cases h; rfl
theorem free_ok {S : Scn} (s : Sound S) : ∀ x ∈ S.us.filterMap (fun u => strOf (mng S.nm u)), OkName x := by
  intro x hx
  obtain ⟨u, hu, e⟩ := List.mem_filterMap.mp hx
  cases q : mng S.nm u with
  | inl i => rw [q] at e; cases e
  | inr t =>
    rw [q] at e
    cases e
    rw [mng_str q]
    exact s.uok u hu
def W_free_of (CT : Addr) : Fw := fun ds M P => ∃ (t : Tr), ds = [dTm CT t] ∧ TmOk t ∧ P (.sq true ((free (scn t)).map D.str)) M
def N_free_of : List Str := ["term", "one"]
def P_free_of : List Str := ["term"]
theorem sc_free_of : FnScope N_free_of P_free_of (defScope s_free_of) := ⟨rfl, rfl, rfl, by decide +kernel, rfl, by decide +kernel, by decide +kernel⟩
theorem h_free_of {z : Cz} {mg : Str → Option Value} {base : Heap} {CF CT : Addr} (G : Gf z mg CF CT) (Dd : Df z mg "free_of" s_free_of) (H_ordered : Has z mg base "ordered" P_ordered 2 W_ordered) : Has z mg base "free_of" P_free_of (2 + 1) (W_free_of  CT) := by
  refine okDf Dd sc_free_of (fun _ _ _ _ _ _ us hl => match us, hl with | [_], _ => rfl) (fun ds M P hw => ?_) (fun f cdv A outer s H E hr ds M P hw => ?_)
  · obtain ⟨t, rfl, _⟩ := hw
    rfl
  obtain ⟨t, rfl, ⟨ho, hn, hb⟩, k⟩ := hw
  refine ⟨_, (pss_one (ps_ret (px_call H_ordered (hr.mono (by omega)) rfl (pa_cons (pe_lc (own := [("one", 1)]) rfl sc_free_of.nd (zi_seq z (zx_fld z (pv 0))) (blkOk_by (N := N_free_of) (sc := defScope s_free_of) (by decide +kernel)) (fun _ _ _ _ _ => (pg_name (i := 1) sc_free_of.nd rfl (.inl rfl))) (fun _ _ _ _ _ => (pts_one (pt_val (pe_callB (zc_isi z) rfl G.isinstance boot_isinstance (pa_cons (pv 1) (pa_cons (px_ty G.str boot_str2 rfl) pa_nil)))))) (fun _ _ _ _ _ => (pv 1))) pa_nil)))), ?_⟩
  have snd := sound_scn ho
  have hU := usN hn
  refine s_ret (ev_call (ea_cons ?_))
  refine ev_lcX [1] (fun _ h => h) (scn t).us (fun u => kD (mng (scn t).nm u)) (fun u => (strOf (mng (scn t).nm u)).isSome) (fun u => kD (mng (scn t).nm u)) (ei_seq (ev_fldO rfl G.cT (G.nT "own_meaning" (by simp)) rfl ⟨_, .q, rfl, szl (by omega), .q, ?_, ?_, .inl ?_⟩))
  · intro i u hu
    refine eg_name ⟨rfl, ?_⟩
    cases q : mng (scn t).nm u with
    | inl i => exact et_b (ev_isi (ev_var rfl ⟨_, _, rfl, kb_is, _, rfl, rfl, rfl, fun q => nomatch q⟩))
    | inr s => exact et_b (ev_isi (ev_var rfl ⟨_, _, rfl, kb_ss, _, rfl, rfl, rfl, fun _ => ev_var rfl ⟨rfl, rfl⟩⟩))
  · rw [List.length_map]; exact Nat.le_trans (List.length_filter_le _ _) (szl (by omega))
  · rw [strs_eq]
    refine ea_nil ⟨true, _, rfl, Nat.le_trans (List.length_filterMap_le _ _) (by omega), free_ok snd, ?_⟩
    rw [uniq_uq]
    exact k
def isStrD : D → Bool
  | .str _ => true
  | _ => false
def KOk (ks : List Key) : Prop := ∀ s, Sum.inr s ∈ ks → OkName s
def W_in_line : Fw := fun ds M P => ∃ (p : Addr) (ks : List Key), ds = [.ref p] ∧ M p = some (.dK (ks.map fun k => (k, .bl true))) ∧ ks.length ≤ 100 ∧ KOk ks ∧ P (.sq true ((lineK ks).map kD)) M
theorem filt_int (ks : List Key) : ((ks.map kD).filter fun d => !isStrD d).map id = (ks.filterMap intOf).map D.int := by
  induction ks with
  | nil => rfl
  | cons k ks ih =>
    cases k with
    | inl i => rw [List.map_cons, List.filter_cons_of_pos (by rfl), List.filterMap_cons_some (f := intOf) (b := i) rfl, List.map_cons, List.map_cons, ih]; rfl
    | inr s => rw [List.map_cons, List.filter_cons_of_neg (by simp [kD, isStrD]), List.filterMap_cons_none (f := intOf) rfl, ih]
theorem filt_str (ks : List Key) : ((ks.map kD).filter isStrD).map id = (ks.filterMap strOf).map D.str := by
  induction ks with
  | nil => rfl
  | cons k ks ih =>
    cases k with
    | inr i => rw [List.map_cons, List.filter_cons_of_pos (by rfl), List.filterMap_cons_some (f := strOf) (b := i) rfl, List.map_cons, List.map_cons, ih]; rfl
    | inl s => rw [List.map_cons, List.filter_cons_of_neg (by simp [kD, isStrD]), List.filterMap_cons_none (f := strOf) rfl, ih]
def N_in_line : List Str := ["some", "binders", "one"]
def P_in_line : List Str := ["some"]
theorem sc_in_line : FnScope N_in_line P_in_line (defScope s_in_line) := ⟨rfl, rfl, rfl, by decide +kernel, rfl, by decide +kernel, by decide +kernel⟩
theorem h_in_line {z : Cz} {mg : Str → Option Value} {base : Heap} {CF CT : Addr} (G : Gf z mg CF CT) (Dd : Df z mg "in_line" s_in_line) (H_ordered : Has z mg base "ordered" P_ordered 2 W_ordered) : Has z mg base "in_line" P_in_line (2 + 1) (W_in_line) := by
  refine okDf Dd sc_in_line (fun _ _ _ _ _ _ us hl => match us, hl with | [_], _ => rfl) (fun ds M P hw => ?_) (fun f cdv A outer s H E hr ds M P hw => ?_)
  · obtain ⟨p, ks, rfl, _⟩ := hw
    rfl
  obtain ⟨p, ks, rfl, hp, hz, hk, k⟩ := hw
  refine ⟨_, (pss_cons (ps_lock (ps_setLc (i := 1) (own := [("one", 2)]) rfl sc_in_line.nd rfl rfl (sw_true rfl rfl rfl (by decide +kernel)) (pi_keys (pv 0)) (blkOk_by (N := N_in_line) (sc := defScope s_in_line) (by decide +kernel)) (fun _ _ _ _ _ => (pg_name (i := 2) sc_in_line.nd rfl (.inl rfl))) (fun _ _ _ _ _ => (pts_one (pt_not (pt_val (pe_callB (zc_isi z) rfl G.isinstance boot_isinstance (pa_cons (pv 2) (pa_cons (px_ty G.str boot_str2 rfl) pa_nil))))))) (fun _ _ _ _ _ => (pv 2)))) (pss_one (ps_ret (pe_lst (za_star z (pe_callB (zc_sorted z) rfl G.sorted boot_sorted (pa_cons (pv 1) pa_nil)) (za_star z (px_call H_ordered (hr.mono (by omega)) rfl (pa_cons (pe_lock (pe_lc (own := [("one", 2)]) rfl sc_in_line.nd (pi_keys (pv 0)) (blkOk_by (N := N_in_line) (sc := defScope s_in_line) (by decide +kernel)) (fun _ _ _ _ _ => (pg_name (i := 2) sc_in_line.nd rfl (.inl rfl))) (fun _ _ _ _ _ => (pts_one (pt_val (pe_callB (zc_isi z) rfl G.isinstance boot_isinstance (pa_cons (pv 2) (pa_cons (px_ty G.str boot_str2 rfl) pa_nil)))))) (fun _ _ _ _ _ => (pv 2)))) pa_nil)) pa_nil)))))), ?_⟩
  have ekv : ((ks.map fun k => ((k : Key), D.bl true)).map fun e => kD e.1) = ks.map kD := by rw [List.map_map]; rfl
  have hat : ∀ {i : Nat} {x : D}, ((ks.map fun k => ((k : Key), D.bl true)).map fun e => kD e.1)[i]? = some x → ∃ k, x = kD k := fun {i x} h => by
    rw [ekv, List.getElem?_map] at h
    cases q : ks[i]? with
    | none => rw [q] at h; cases h
    | some k => rw [q] at h; cases h; exact ⟨k, rfl⟩
  refine s_seq (s_lockSet (ev_lcK [2] (fun _ h => h) (fun d => !isStrD d) id rfl hp (by rw [List.length_map]; exact szl (by omega)) ?_ ⟨?_, ?_⟩))
  · intro i x hx
    obtain ⟨k, rfl⟩ := hat hx
    refine eg_name ⟨rfl, ?_⟩
    cases k with
    | inl i => exact et_not (et_b (ev_isi (ev_var rfl ⟨_, _, rfl, kb_is, _, rfl, rfl, rfl, fun _ => ev_var rfl ⟨rfl, rfl⟩⟩)))
    | inr s => exact et_not (et_b (ev_isi (ev_var rfl ⟨_, _, rfl, kb_ss, _, rfl, rfl, rfl, fun q => nomatch q⟩)))
  · rw [ekv, filt_int, List.length_map]; exact Nat.le_trans (List.length_filterMap_le _ _) (szl (by omega))
  rw [ekv, filt_int]
  refine s_ret (ev_lst (ea_star (ev_cb (ea_cons (ev_var rfl (ea_nil ⟨_, ks.filterMap intOf, rfl, .q, fun ns' hp1 hp2 => ?_⟩))))))
  have e1 := isort_eq hp1 hp2
  subst e1
  refine ⟨by rw [List.length_map, isort_len]; exact Nat.le_trans (List.length_filterMap_le _ _) (szl (by omega)), .inl ⟨_, _, rfl, ?_⟩⟩
  refine ea_star (ev_call (ea_cons (ev_lcK [2] (fun _ h => h) isStrD id rfl hp (by rw [List.length_map]; exact szl (by omega)) ?_ ⟨?_, ?_⟩)))
  · intro i x hx
    obtain ⟨k, rfl⟩ := hat hx
    refine eg_name ⟨rfl, ?_⟩
    cases k with
    | inl i => exact et_b (ev_isi (ev_var rfl ⟨_, _, rfl, kb_is, _, rfl, rfl, rfl, fun q => nomatch q⟩))
    | inr s => exact et_b (ev_isi (ev_var rfl ⟨_, _, rfl, kb_ss, _, rfl, rfl, rfl, fun _ => ev_var rfl ⟨rfl, rfl⟩⟩))
  · rw [ekv, filt_str, List.length_map]; exact Nat.le_trans (List.length_filterMap_le _ _) (szl (by omega))
  rw [ekv, filt_str]
  refine ea_nil ⟨true, _, rfl, Nat.le_trans (List.length_filterMap_le _ _) (by omega), fun x hx => ?_, _, _, rfl, ea_nil ⟨?_, ?_⟩⟩
  · obtain ⟨y, hy, e⟩ := List.mem_filterMap.mp hx
    cases y with
    | inl i => cases e
    | inr s => cases e; exact hk _ hy
  · have h1 := List.length_filterMap_le intOf ks
    have h2 := List.length_filterMap_le strOf ks
    have h3 := uniq_len (ks.filterMap strOf)
    simp only [List.length_append, List.length_map, List.length_nil, isort_len, srt_len]
    exact szl (by omega)
  · rw [List.append_nil, uniq_uq]
    unfold lineK at k
    rw [List.map_append, List.map_map, List.map_map] at k
    exact k
/-- cells of dicts at the addresses ps -/
def MC (M : Mem) (ps : List Addr) (f : Nat → List Key) : Mem := fun a => match ps.idxOf? a with
  | some j => some (.dK ((f j).map fun k => (k, .bl true)))
  | none => M a
theorem idx_at {ps : List Addr} (hn : ps.Nodup) {j : Nat} {a : Addr} (h : ps[j]? = some a) : ps.idxOf? a = some j := by
  obtain ⟨hj, e⟩ := List.getElem?_eq_some_iff.mp h
  rw [List.idxOf?, List.findIdx?_eq_some_iff_getElem]
  refine ⟨hj, by simp [e], fun i hi => ?_⟩
  have hne : ps[i] ≠ a := by
    intro q
    have := (List.nodup_iff_pairwise_ne.mp hn)
    rw [List.pairwise_iff_getElem] at this
    exact this i j (by omega) hj hi (q.trans e.symm)
  simp [hne]
theorem MC_at {M : Mem} {ps : List Addr} {f : Nat → List Key} (hn : ps.Nodup) {j : Nat} {a : Addr} (h : ps[j]? = some a) : MC M ps f a = some (.dK ((f j).map fun k => (k, .bl true))) := by
  unfold MC
  rw [idx_at hn h]
theorem MC_out {M : Mem} {ps : List Addr} {f : Nat → List Key} {a : Addr} (h : a ∉ ps) : MC M ps f a = M a := by
  unfold MC
  have : ps.idxOf? a = none := by
    rw [List.idxOf?, List.findIdx?_eq_none_iff]
    intro x hx
    simp
    intro e
    exact h (e ▸ hx)
  rw [this]
theorem MC_upd {M : Mem} {ps : List Addr} {f : Nat → List Key} (hn : ps.Nodup) {j : Nat} {a : Addr} {ks : List Key} (h : ps[j]? = some a) : mupd (MC M ps f) a (.dK (ks.map fun k => (k, .bl true))) = MC M ps fun i => if i = j then ks else f i := by
  funext x
  by_cases hx : x = a
  · subst hx
    rw [mupd_same, MC_at hn h, if_pos rfl]
  · rw [mupd_ne hx]
    unfold MC
    cases q : ps.idxOf? x with
    | none => rfl
    | some i =>
      have : i ≠ j := by
        intro e
        subst e
        rw [List.idxOf?, List.findIdx?_eq_some_iff_getElem] at q
        obtain ⟨hi, e2, _⟩ := q
        have e3 : ps[i] = x := by simpa using e2
        have e4 := (List.getElem?_eq_some_iff.mp h).2
        exact hx (e3.symm.trans e4)
      simp only [if_neg this]
theorem MC_snoc {M : Mem} {ps : List Addr} {a : Addr} (h : a ∉ ps) : mupd (MC M ps fun _ => []) a (.dK []) = MC M (ps ++ [a]) fun _ => [] := by
  funext x
  by_cases hx : x = a
  · subst hx
    rw [mupd_same]
    unfold MC
    have : (ps ++ [x]).idxOf? x = some ps.length := by
      rw [List.idxOf?, List.findIdx?_eq_some_iff_getElem]
      refine ⟨by simp, by simp, fun i hi => ?_⟩
      rw [List.getElem_append_left hi]
      simp
      intro e
      exact h (e ▸ List.getElem_mem hi)
    rw [this]
    rfl
  · rw [mupd_ne hx]
    unfold MC
    by_cases hm : x ∈ ps
    · obtain ⟨i, hi, e⟩ := List.getElem_of_mem hm
      cases q : ps.idxOf? x with
      | none =>
        exfalso
        rw [List.idxOf?, List.findIdx?_eq_none_iff] at q
        have := q x hm
        simp at this
      | some j =>
        have : (ps ++ [a]).idxOf? x = some j := by
          rw [List.idxOf?, List.findIdx?_eq_some_iff_getElem] at q ⊢
          obtain ⟨hj, e2, e3⟩ := q
          refine ⟨by simp; omega, by rw [List.getElem_append_left hj]; exact e2, fun i hi => ?_⟩
          rw [List.getElem_append_left (by omega)]
          exact e3 i hi
        rw [this]
    · have q1 : ps.idxOf? x = none := by
        rw [List.idxOf?, List.findIdx?_eq_none_iff]
        intro y hy
        simp
        intro e
        exact hm (e ▸ hy)
      have q2 : (ps ++ [a]).idxOf? x = none := by
        rw [List.idxOf?, List.findIdx?_eq_none_iff]
        intro y hy
        simp
        intro e
        rcases List.mem_append.mp hy with h2 | h2
        · exact hm (e ▸ h2)
        · simp at h2; exact hx (e.symm.trans h2)
      rw [q1, q2]
theorem putK_old {ks : List Key} {x : Key} (h : x ∈ ks) : putD (ks.map fun s => ((s : Key), D.bl true)) x (.bl true) = ks.map fun s => ((s : Key), D.bl true) := by
  unfold putD
  rw [if_pos]
  · rw [List.map_map]
    apply List.map_congr_left
    intro s hs
    show (if (s : Key) = x then _ else _) = _
    split <;> rfl
  · rw [List.any_eq_true]
    exact ⟨(x, .bl true), List.mem_map.mpr ⟨x, h, rfl⟩, by simp⟩
theorem putK_uq (xs : List Key) (x : Key) : putD ((uq xs).map fun s => ((s : Key), D.bl true)) x (.bl true) = (uq (xs ++ [x])).map fun s => ((s : Key), D.bl true) := by
  rw [uq_snoc]
  by_cases h : x ∈ uq xs
  · rw [if_pos h, putK_old h]
  · rw [if_neg h, putD_new, List.map_append]
    · rfl
    · intro e he q
      obtain ⟨s, hs, rfl⟩ := List.mem_map.mp he
      exact h (q ▸ hs)
theorem keyOf_kD (k : Key) : keyOfD (kD k) = some k := by cases k <;> rfl
/-- found[binder][meant] = True -/
theorem s_put_in {z : Cz} {Γ : Gam} {M : Mem} {E : PN} {tv ta tb : TE} (h : EV z tv Γ M fun u M1 => EV z ta Γ M1 fun d M2 => EV z tb Γ M2 fun e M3 => ∃ p kvs k, d = .ref p ∧ M3 p = some (.dK kvs) ∧ keyOfD e = some k ∧ kvs.length < sizeLine ∧ E.nx Γ (mupd M3 p (.dK (putD kvs k u)))) : EVS z (tAsg tv (gSub ta tb rSetD)) Γ M E :=
  s_asg (js := []) (h.imp fun u M1 h1 => eg_setD (h1.imp fun d M2 h2 => h2.imp fun e M3 ⟨p, kvs, k, e1, e2, e3, e4, e5⟩ => ⟨p, kvs, k, e1, e2, e3, e4, e5⟩))
theorem innK_eq (A : List Nat) (m : Key) : innK A m = inn A m := by cases m <;> rfl
theorem metIn_snoc (S : Scn) (us : List (Str × List Nat)) (u : Str × List Nat) (b : Nat) : metIn S (us ++ [u]) b = if b ∈ inn u.2 (mng S.nm u) then metIn S us b ++ [mng S.nm u] else metIn S us b := by
  unfold metIn
  rw [List.filter_append, List.map_append]
  by_cases h : b ∈ inn u.2 (mng S.nm u)
  · rw [if_pos h, List.filter_cons_of_pos (by rw [innK_eq]; simpa using h)]; rfl
  · rw [if_neg h, List.filter_cons_of_neg (by rw [innK_eq]; simpa using h)]; simp
theorem met_ok {S : Scn} (s : Sound S) (us : List (Str × List Nat)) (hs : ∀ u ∈ us, u ∈ S.us) (b : Nat) : KOk (uq (metIn S us b)) := by
  intro x hx
  obtain ⟨u, hu, e⟩ := List.mem_map.mp (uq_mem.mp hx)
  rw [mng_str e]
  exact s.uok u (hs u (List.mem_filter.mp hu).1)
theorem met_len (S : Scn) (us : List (Str × List Nat)) (b : Nat) : (uq (metIn S us b)).length ≤ us.length := by
  refine Nat.le_trans (uq_len _) ?_
  unfold metIn
  rw [List.length_map]
  exact List.length_filter_le _ _
def W_all_live (CT : Addr) : Fw := fun ds M P => ∃ (t : Tr), ds = [dTm CT t] ∧ TmOk t ∧ P (dLv (LV (scn t))) M
def N_all_live : List Str := ["term", "found", "use", "meant", "binder", "name", "some"]
def P_all_live : List Str := ["term"]
theorem sc_all_live : FnScope N_all_live P_all_live (defScope s_all_live) := ⟨rfl, rfl, rfl, by decide +kernel, rfl, by decide +kernel, by decide +kernel⟩
theorem h_all_live {z : Cz} {mg : Str → Option Value} {base : Heap} {CF CT : Addr} (G : Gf z mg CF CT) (Dd : Df z mg "all_live" s_all_live) (H_inner : Has z mg base "inner" P_inner 1 W_inner) (H_in_line : Has z mg base "in_line" P_in_line 3 W_in_line) : Has z mg base "all_live" P_all_live (3 + 1) (W_all_live  CT) := by
  refine okDf Dd sc_all_live (fun _ _ _ _ _ _ us hl => match us, hl with | [_], _ => rfl) (fun ds M P hw => ?_) (fun f cdv A outer s H E hr ds M P hw => ?_)
  · obtain ⟨t, rfl, _⟩ := hw
    rfl
  obtain ⟨t, rfl, ⟨ho, hn, hb⟩, k⟩ := hw
  refine ⟨_, (pss_cons (ps_setLc (i := 1) (own := [("name", 5)]) rfl sc_all_live.nd rfl rfl (sw_true rfl rfl rfl (by decide +kernel)) (zi_seq z (zx_fld z (pv 0))) (blkOk_by (N := N_all_live) (sc := defScope s_all_live) (by decide +kernel)) (fun _ _ _ _ _ => (pg_name (i := 5) sc_all_live.nd rfl (.inl rfl))) (fun _ _ _ _ _ => pts_nil) (fun _ _ _ _ _ => pe_dnewK)) (pss_cons (ps_for PassesOwn.never rfl (zi_enum z G.enumerate (pa_cons (zx_fld z (pv 0)) pa_nil)) (zg_tup (n := 2) z (pgs_cons (pg_name (i := 2) sc_all_live.nd rfl (.inl rfl)) (pgs_cons (pg_name (i := 3) sc_all_live.nd rfl (.inl rfl)) pgs_nil))) (pss_one (ps_for PassesOwn.never rfl (zi_seq z (px_call H_inner (hr.mono (by omega)) rfl (pa_cons (zx_ix z (zx_fld z (pv 0)) (pv 2)) (pa_cons (pv 3) pa_nil)))) (pg_name (i := 4) sc_all_live.nd rfl (.inl rfl)) (pss_one (ps_asg pe_bl (pg_sub (zx_ix z (pv 1) (pv 4)) (pv 3) (set_dict (hu_of hr)))))))) (pss_one (ps_ret (pe_lc (own := [("some", 6)]) rfl sc_all_live.nd (zi_seq z (pv 1)) (blkOk_by (N := N_all_live) (sc := defScope s_all_live) (by decide +kernel)) (fun _ _ _ _ _ => (pg_name (i := 6) sc_all_live.nd rfl (.inl rfl))) (fun _ _ _ _ _ => pts_nil) (fun _ _ _ _ _ => (px_call H_in_line (hr.mono (by omega)) rfl (pa_cons (pv 6) pa_nil)))))))), ?_⟩
  have snd := sound_scn ho
  have hU := usN hn
  have h6 := nmN t
  refine EVS.forget ?_
  refine s_seq (s_set ?_)
  refine ev_lc [5] (fun _ h => h) (ei_seq (ev_fldO rfl G.cT (G.nT "own_names" (by simp)) rfl ⟨_, .q, by rw [List.length_map]; exact szl (by omega), fun i acc m => ∃ ps : List Addr, acc = ps.map D.ref ∧ ps.length = i ∧ ps.Nodup ∧ (∀ a ∈ ps, M a = none) ∧ m = MC M ps fun _ => [], ⟨[], rfl, rfl, List.nodup_nil, (fun a h => nomatch h), rfl⟩, ?_, ?_, ?_⟩))
  · rintro i acc m hi ⟨ps, rfl, hl, _, _, rfl⟩
    exact ⟨.q, by rw [List.length_map, hl]; exact Nat.le_refl _⟩
  · rintro i x acc m hx ⟨ps, rfl, hl, hnd, hfr, rfl⟩
    refine eg_name (et_yes ⟨fun _ => ev_dnewM fun p hp => ?_, fun q => nomatch q⟩)
    have hpn : p ∉ ps := by
      intro hm
      obtain ⟨j, hj, e⟩ := List.getElem_of_mem hm
      rw [MC_at hnd (by rw [List.getElem?_eq_getElem hj, e])] at hp
      cases hp
    rw [MC_out hpn] at hp
    refine ⟨ps ++ [p], by rw [List.map_append]; rfl, by simp [hl], ?_, ?_, MC_snoc hpn⟩
    · exact List.nodup_append.mpr ⟨hnd, by simp, fun a ha b hb2 => by simp at hb2; subst hb2; intro e; subst e; exact hpn ha⟩
    · intro a ha
      rcases List.mem_append.mp ha with h | h
      · exact hfr a h
      · simp at h; subst h; exact hp
  rintro acc m ⟨ps, rfl, hl, hnd, hfr, rfl⟩
  rw [List.length_map] at hl
  refine ⟨by rw [List.length_map, hl]; exact szl (by omega), .inl ?_⟩
  have e0 : (MC M ps fun _ => []) = MC M ps fun b => uq (metIn (scn t) ((scn t).us.take 0) b) := by congr 1
  rw [e0]
  refine s_seq (s_for (js := [2, 3]) (ei_enum (ea_cons (ev_fldO rfl G.cT (G.nT "own_meaning" (by simp)) rfl (ea_nil ⟨_, _, rfl, .q, fun i γ m => ∃ c2 c3 c4 c5 c6, γ = [some (dTm CT t), some (.sq true (ps.map D.ref)), c2, c3, c4, c5, c6] ∧ m = MC M ps fun b => uq (metIn (scn t) ((scn t).us.take i) b), ⟨_, _, _, _, _, rfl, rfl⟩, fun _ _ _ _ _ => .q, ?_, ?_⟩)))))
  · rintro i x γ m hx ⟨c2, c3, c4, c5, c6, rfl, rfl⟩
    rw [pairs_map, List.getElem?_map, List.getElem?_zipIdx] at hx
    cases qu : (scn t).us[i]? with
    | none => rw [qu] at hx; cases hx
    | some u =>
      rw [qu] at hx
      simp only [Option.map_some] at hx
      cases hx
      have hu := List.mem_of_getElem? qu
      have tk : (scn t).us.take (i + 1) = (scn t).us.take i ++ [u] := by rw [List.take_add_one, qu]; rfl
      generalize hA : inn u.2 (mng (scn t).nm u) = IA
      have hIAl : IA.length ≤ 25 := by
        rw [← hA]
        refine Nat.le_trans ?_ (us_len hn hu)
        cases mng (scn t).nm u with
        | inr s => exact Nat.le_refl _
        | inl j => exact List.length_filter_le _ _
      have hIAs : ∀ b ∈ IA, b < ps.length := fun b hb2 => by rw [hl]; rw [← hA] at hb2; exact us_lt snd hu (inn_sub hb2)
      refine eg_tup2 (s_for (js := [4]) (ei_seq (ev_call (ea_cons (ev_op (ev_fldO rfl G.cT (G.nT "use_around" (by simp)) rfl (ev_var rfl ⟨_, rfl, .inl ⟨_, dTupN u.2, .q, atI_nat (0 + i) (by rw [Nat.zero_add, List.getElem?_map, qu]; rfl), ?_⟩⟩)))))))
      refine ea_cons (ev_var rfl (ea_nil ⟨u.2, _, rfl, Nat.le_trans (us_len hn hu) (by omega), ?_⟩))
      rw [hA]
      refine ⟨_, .q, fun j γ m => ∃ c4 c5 c6, γ = [some (dTm CT t), some (.sq true (ps.map D.ref)), some (.int ((0 + i : Nat))), some (kD (mng (scn t).nm u)), c4, c5, c6] ∧ m = MC M ps fun b => if b ∈ IA.take j then uq (metIn (scn t) ((scn t).us.take i) b ++ [mng (scn t).nm u]) else uq (metIn (scn t) ((scn t).us.take i) b), ⟨_, _, _, rfl, by simp⟩, fun _ _ _ _ _ => .q, ?_, ?_⟩
      · rintro j y γ m hy ⟨c4, c5, c6, rfl, rfl⟩
        unfold dN at hy
        rw [List.getElem?_map] at hy
        cases qb : IA[j]? with
        | none => rw [qb] at hy; cases hy
        | some b =>
          rw [qb] at hy
          cases hy
          have hbI := List.mem_of_getElem? qb
          have hbl := hIAs b hbI
          have hpb : ps[b]? = some ps[b] := List.getElem?_eq_getElem hbl
          refine eg_name (s_put_in (ev_bl (ev_op (ev_var rfl (ev_var rfl ⟨_, rfl, .inl ⟨_, .ref ps[b], .q, atI_nat b (by rw [List.getElem?_map, hpb]; rfl), ev_var rfl ⟨ps[b], _, _, rfl, MC_at hnd hpb, keyOf_kD _, ?_, ?_⟩⟩⟩)))))
          · rw [List.length_map]
            split
            · refine Nat.lt_of_le_of_lt (uq_len _) ?_
              rw [List.length_append]
              unfold metIn
              rw [List.length_map]
              refine Nat.lt_of_le_of_lt (Nat.add_le_add_right (List.length_filter_le _ _) _) ?_
              rw [List.length_take]
              simp only [sizeLine, List.length_cons, List.length_nil]
              omega
            · refine Nat.lt_of_le_of_lt (met_len _ _ _) ?_
              rw [List.length_take]
              simp only [sizeLine]
              omega
          · refine ⟨_, _, _, rfl, ?_⟩
            have htk : IA.take (j + 1) = IA.take j ++ [b] := by rw [List.take_add_one, qb]; rfl
            have key : ∀ (g : List Key), putD (g.map fun k => ((k : Key), D.bl true)) (mng (scn t).nm u) (.bl true) = (uq (g ++ [mng (scn t).nm u])).map (fun k => ((k : Key), D.bl true)) ∨ True := fun _ => .inr trivial
            by_cases hbt : b ∈ IA.take j
            · rw [if_pos hbt, putK_old (uq_mem.mpr (List.mem_append_right _ (List.mem_singleton.mpr rfl))), MC_upd hnd hpb]
              congr 1
              funext b'
              rw [htk]
              by_cases hbb : b' = b
              · subst hbb
                rw [if_pos rfl, if_pos (List.mem_append_right _ (List.mem_singleton.mpr rfl))]
              · rw [if_neg hbb]
                by_cases h2 : b' ∈ IA.take j
                · rw [if_pos h2, if_pos (List.mem_append_left _ h2)]
                · rw [if_neg h2, if_neg (fun q => (List.mem_append.mp q).elim h2 fun q => hbb (List.mem_singleton.mp q))]
            · rw [if_neg hbt, putK_uq, MC_upd hnd hpb]
              congr 1
              funext b'
              rw [htk]
              by_cases hbb : b' = b
              · subst hbb
                rw [if_pos rfl, if_pos (List.mem_append_right _ (List.mem_singleton.mpr rfl))]
              · rw [if_neg hbb]
                by_cases h2 : b' ∈ IA.take j
                · rw [if_pos h2, if_pos (List.mem_append_left _ h2)]
                · rw [if_neg h2, if_neg (fun q => (List.mem_append.mp q).elim h2 fun q => hbb (List.mem_singleton.mp q))]
      · rintro γ m ⟨c4, c5, c6, rfl, rfl⟩
        refine ⟨_, _, _, _, _, rfl, ?_⟩
        have hln : (dN IA).length = IA.length := by unfold dN; rw [List.length_map]
        rw [hln, List.take_length]
        congr 1
        funext b
        rw [tk, metIn_snoc, hA]
        split <;> rfl
  · rintro γ m ⟨c2, c3, c4, c5, c6, rfl, rfl⟩
    have hpl : (pairs ((scn t).us.map fun u => kD (mng (scn t).nm u))).length = (scn t).us.length := by simp [pairs]
    rw [hpl, List.take_length]
    refine s_ret (ev_lcA [6] (fun _ h => h) ps.zipIdx (fun p => D.ref p.1) (fun p => .sq true ((live (scn t) p.2).map kD)) (ei_seq (ev_var rfl ⟨_, .q, ?_, by rw [List.length_zipIdx, hl]; exact szl (by omega), .q, ?_, ?_, .inl ?_⟩)))
    · have : ps.zipIdx.map (fun p => D.ref p.1) = (ps.zipIdx.map Prod.fst).map D.ref := by rw [List.map_map]; rfl
      rw [this, List.zipIdx_map_fst]
    · intro i e he
      rw [List.getElem?_zipIdx] at he
      cases qp : ps[i]? with
      | none => rw [qp] at he; cases he
      | some a =>
        rw [qp] at he
        simp only [Option.map_some, Option.some.injEq] at he
        subst he
        refine eg_name ⟨rfl, ev_call (ea_cons (ev_var rfl (ea_nil ⟨a, uq (metIn (scn t) (scn t).us i), rfl, MC_at hnd qp, Nat.le_trans (met_len _ _ _) (by omega), met_ok snd _ (fun _ h => h) i, ?_, rfl⟩)))⟩
        show _ = D.sq true ((live (scn t) (0 + i)).map kD)
        rw [Nat.zero_add]
        rfl
    · rw [List.length_map, List.length_zipIdx, hl]; exact szl (by omega)
    · refine ⟨M, fun a o ha => ?_, ?_⟩
      · rw [MC_out (fun hm => by rw [hfr a hm] at ha; cases ha)]
        exact ha
      · have : ps.zipIdx.map (fun p => D.sq true ((live (scn t) p.2).map kD)) = (LV (scn t)).map fun ks => D.sq true (ks.map kD) := by
          have e1 : ps.zipIdx.map (fun p => D.sq true ((live (scn t) p.2).map kD)) = (ps.zipIdx.map Prod.snd).map fun b => D.sq true ((live (scn t) b).map kD) := by rw [List.map_map]; rfl
          rw [e1, List.zipIdx_map_snd, hl]
          unfold LV
          rw [List.map_map, List.range_eq_range']
          rfl
        rw [this]
        exact k
end Lv

set_option Elab.async false
set_option linter.all false
set_option maxRecDepth 100000
set_option maxHeartbeats 4000000
set_option pp.maxSteps 400
set_option pp.deepTerms false
namespace Lv
open PySem PySem.Spec PyProof.Rows L2 StX
local macro_rules
  | `(tactic| walk_at "lv1") => `(tactic| with_reducible (first
    | refine s_set ?_ | refine s_ret ?_ | refine s_if ?_ | refine s_drop ?_ | refine s_next ?_ | refine s_par ?_ | refine s_par3 ?_ | refine s_subL ?_ | refine s_unl2 ?_ | refine s_tup2 ?_ | refine eg_unl2 ?_ | refine eg_unl3 ?_ | refine eg_tup2 ?_
    | refine ev_var rfl ?_ | refine ev_int ?_ | refine ev_str ?_ | refine ev_bl ?_ | refine ev_non ?_ | refine ev_ref ?_
    | refine ev_lst0 ?_ | refine ev_eqE ?_ | refine ev_neE ?_ | refine ev_op ?_ | refine ev_un ?_ | refine ev_isiLT ?_ | refine ev_isi ?_ | refine ev_cb ?_ | refine ev_chain ?_ | refine ev_andV ?_ | refine ev_orV ?_ | refine ev_notV ?_ | refine ev_if ?_ | refine ev_tup ?_ | refine ev_call ?_
    | refine et_and ?_ | refine et_or ?_ | refine et_not ?_ | refine et_test ?_ | refine et_b ?_ | refine et_yes ?_
    | refine ea_cons ?_ | refine ea_nil ?_
    | refine g_int2 ?_ | refine g_bl ?_ | refine g_int ?_ | refine g_addI ?_ | refine g_eqI ?_ | refine g_eqSt ?_ | refine g_eqSf (by decide +kernel) ?_ | refine g_eqS ?_ | refine g_eqIS ?_ | refine g_eqSI ?_ | refine g_eqNS ?_ | refine g_isn ?_
    | refine g_par ?_ | refine g_par3 ?_ | refine g_neg ?_
    | refine g_ifT ?_ | refine g_ifNT ?_ | refine g_ifNF ?_ | refine g_ifF ?_ | refine g_ifD ?_ ?_ | refine g_ifDN ?_ ?_
    | refine eg_name ?_ | refine eg_setL ?_))
local macro_rules
  | `(tactic| walk_at "lvM") => `(tactic| first | assumption | exact mupd_same)
local macro_rules
  | `(tactic| walk_at "lvW") => `(tactic| with_unfolding_all rfl)
local macro_rules
  | `(tactic| walk_at "lvA") => `(tactic| first | with_unfolding_all rfl | with_unfolding_all exact atI_nat 0 rfl | with_unfolding_all exact atI_nat 1 rfl)
local macro_rules
  | `(tactic| walk_at "lv2") => `(tactic| with_reducible (first
    | refine ⟨_, _, (by walk_at "lvW"), kb_ii, ?_⟩ | refine ⟨_, _, (by walk_at "lvW"), kb_ib, ?_⟩ | refine ⟨_, _, (by walk_at "lvW"), kb_is, ?_⟩ | refine ⟨_, _, (by walk_at "lvW"), kb_ss, ?_⟩ | refine ⟨_, _, (by walk_at "lvW"), kb_tt, ?_⟩
    | refine .inl ⟨_, _, rfl, IsS.q, ?_⟩ | refine .inl ⟨_, _, rfl, IsS.r (by walk_at "lvM"), ?_⟩ | refine .inl ⟨_, _, rfl, IsS.sc, ?_⟩
    | refine .inl ⟨_, _, IsS.q, (by walk_at "lvA"), ?_⟩ | refine .inl ⟨_, _, IsS.r (by walk_at "lvM"), (by walk_at "lvA"), ?_⟩
    | refine .inl (g_int2 (And.intro (CMul.l (by omega) (by omega)) ?_)) | refine .inl (g_int2 (And.intro (CMul.r (by omega) (by omega)) ?_))
    | refine And.intro (CDiv.mk (by omega) (by omega)) ?_ | refine And.intro (by omega) ?_ | refine And.intro (Nat.le_of_ble_eq_true (by walk_at "lvW")) ?_
    | refine .inl ⟨_, _, rfl, ?_⟩
    | refine .inl ⟨_, rfl, ?_⟩ | refine .inr ⟨_, rfl, ?_⟩
    | refine ⟨_, _, _, _, rfl, (by walk_at "lvM"), rfl, (by walk_at "lvW"), ?_⟩
    | refine ⟨_, _, rfl, IsL.q, ?_⟩
    | refine ⟨_, rfl, .inl ⟨_, _, IsS.q, (by walk_at "lvA"), ?_⟩⟩))
local macro_rules
  | `(tactic| walk_at "lvm") => `(tactic| repeat' (first | walk_at "lv1" | (with_reducible refine s_seq ?_) | walk_at "lv2" | dsimp only))
local macro_rules
  | `(tactic| walk_at "lve") => `(tactic| repeat' (first | walk_at "lv1" | (with_reducible refine ev_lst ?_) | walk_at "lv2" | dsimp only))
local macro_rules
  | `(tactic| walk_at "lv") => `(tactic| repeat' (first | walk_at "lv1" | (with_reducible refine ev_lst ?_) | (with_reducible refine s_seq ?_) | walk_at "lv2" | dsimp only))
local macro_rules
  | `(tactic| walk_at "lve0") => `(tactic| repeat' (first
    | (with_reducible first | refine ev_var rfl ?_ | refine ev_int ?_ | refine ev_str ?_ | refine et_test ?_ | refine ev_eqE ?_ | refine ev_op ?_ | refine g_bl ?_ | refine g_eqI ?_ | refine g_eqSt ?_ | refine g_eqSf (by decide +kernel) ?_ | refine g_eqS ?_ | refine g_int ?_ | refine g_ifT ?_ | refine g_ifF ?_ | refine g_ifD ?_ ?_) | walk_at "lv2" | dsimp only))
local macro_rules
  | `(tactic| walk_at "lvx") => `(tactic| repeat' (first | (refine fun hx => absurd hx ?_; (with_reducible fail_if_success assumption); simp; done) | (refine fun _ => ?_; walk_at "lv")))
def cntK (K : List Nat) (b : Nat) : Nat := ((List.range b).filter fun c => !decide (c ∈ K)).length
def toldAt (W : List (Option Str)) (K : List Nat) (sp : List Str) (b : Nat) : Str := if b ∈ K then (W.getD b none).getD "" else sp.getD (cntK K b) ""
def toldL (W : List (Option Str)) (K : List Nat) (sp : List Str) : List Str := (List.range W.length).map (toldAt W K sp)
theorem cntK_succ (K : List Nat) (b : Nat) : cntK K (b + 1) = cntK K b + (if b ∈ K then 0 else 1) := by
  unfold cntK
  rw [List.range_succ, List.filter_append, List.length_append]
  congr 1
  by_cases h : b ∈ K <;> simp [h]
theorem cntK_le (K : List Nat) (b : Nat) : cntK K b ≤ b := by
  unfold cntK
  refine Nat.le_trans (List.length_filter_le _ _) ?_
  simp
theorem fresh_len (ks : List (Option Str)) : 78 ≤ (freshW ks).length + ks.length := by
  have key : ∀ (L : List Str) (ks : List (Option Str)), L.Nodup → (L.filter fun s => decide (some s ∈ ks)).length ≤ ks.length := by
    intro L
    induction L with
    | nil => intro ks _; simp
    | cons x L ih =>
      intro ks hn
      rw [List.nodup_cons] at hn
      by_cases h : some x ∈ ks
      · rw [List.filter_cons_of_pos (by simpa using h), List.length_cons]
        have e : (L.filter fun s => decide (some s ∈ ks)) = L.filter fun s => decide (some s ∈ ks.erase (some x)) := by
          apply List.filter_congr
          intro s hs
          have hne : some s ≠ some x := fun q => hn.1 (Option.some.inj q ▸ hs)
          exact decide_eq_decide.mpr (List.mem_erase_of_ne hne).symm
        rw [e]
        have := ih (ks.erase (some x)) hn.2
        rw [List.length_erase_of_mem h] at this
        have := List.length_pos_of_mem h
        omega
      · rw [List.filter_cons_of_neg (by simpa using h)]
        exact ih ks hn.2
  have hl : wl.length = 78 := by decide +kernel
  have hn : wl.Nodup := by decide +kernel
  have h1 := key wl ks hn
  have h2 : wl.length = (wl.filter fun s => decide (some s ∈ ks)).length + (freshW ks).length := by
    unfold freshW
    have : ∀ L : List Str, L.length = (L.filter fun s => decide (some s ∈ ks)).length + (L.filter fun s => !decide (some s ∈ ks)).length := by
      intro L
      induction L with
      | nil => rfl
      | cons x L ih =>
        by_cases h : some x ∈ ks
        · rw [List.filter_cons_of_pos (by simpa using h), List.filter_cons_of_neg (by simpa using h), List.length_cons, List.length_cons, ih]; omega
        · rw [List.filter_cons_of_neg (by simpa using h), List.filter_cons_of_pos (by simpa using h), List.length_cons, List.length_cons, ih]; omega
    exact this wl
  omega
def shutN (S : Scn) (W : List (Option Str)) : List (Option Str) := (free S).map some ++ (W ++ S.nm.map some)
def spareN (S : Scn) (W : List (Option Str)) : List Str := (freshW (nset (shutN S W))).take W.length
theorem free_len {S : Scn} : (free S).length ≤ S.us.length := by
  unfold free
  rw [srt_len]
  exact Nat.le_trans (uq_len _) (List.length_filterMap_le _ _)
theorem spare_len {S : Scn} {W : List (Option Str)} (h1 : S.us.length ≤ 25) (h2 : S.nm.length ≤ 6) (h3 : W.length = S.nm.length) : W.length ≤ (freshW (nset (shutN S W))).length := by
  have h4 := fresh_len (nset (shutN S W))
  have h5 := nset_len (shutN S W)
  have h6 := free_len (S := S)
  unfold shutN at h5 h4 ⊢
  simp only [List.length_append, List.length_map] at h5
  omega
def told (S : Scn) (W : List (Option Str)) (V : List Int) : List Str := toldL W (kept (LV S) W V) (spareN S W)
theorem LV_len (S : Scn) : (LV S).length = S.nm.length := by unfold LV; simp
theorem kept_lt {lv : Lvs} {W : List (Option Str)} {V : List Int} {b : Nat} (h : b ∈ kept lv W V) : b ∈ wishers lv W := by
  rcases kept_sub _ _ b h with h | h
  · cases h
  · exact h
def W_told_by (CT : Addr) : Fw := fun ds M P => ∃ (t : Tr) (k k' : Bool) (W : List (Option Str)) (V : List Int), ds = [dTm CT t, dWs k W, dVs k' V, .sq false ((scn t).nm.map D.str)] ∧ TmOk t ∧ WOk t W ∧ VOk t V ∧ P (.sq false ((told (scn t) W V).map D.str)) M
def N_told_by : List Str := ["term", "wishes", "weights", "own", "found", "shut", "spare", "name", "binder"]
def P_told_by : List Str := ["term", "wishes", "weights", "own"]
theorem sc_told_by : FnScope N_told_by P_told_by (defScope s_told_by) := ⟨rfl, rfl, rfl, by decide +kernel, rfl, by decide +kernel, by decide +kernel⟩
theorem h_told_by {z : Cz} {mg : Str → Option Value} {base : Heap} {CF CT : Addr} (G : Gf z mg CF CT) (Dd : Df z mg "told_by" s_told_by) (H_kept_of : Has z mg base "kept_of" P_kept_of 3 W_kept_of) (H_all_live : Has z mg base "all_live" P_all_live 4 (W_all_live CT)) (H_free_of : Has z mg base "free_of" P_free_of 3 (W_free_of CT)) (H_first_names : Has z mg base "first_names" P_first_names 2 W_first_names) : Has z mg base "told_by" P_told_by (4 + 1) (W_told_by  CT) := by
  refine okDf Dd sc_told_by (fun _ _ _ _ _ _ us hl => match us, hl with | [_, _, _, _], _ => rfl) (fun ds M P hw => ?_) (fun f cdv A outer s H E hr ds M P hw => ?_)
  · obtain ⟨t, k, k', W, V, rfl, _⟩ := hw
    rfl
  obtain ⟨t, kk, k', W, V, rfl, ht, hw, hv, k⟩ := hw
  refine ⟨_, (pss_cons (ps_set (i := 4) sc_told_by.nd rfl (.inr rfl) (px_call H_kept_of (hr.mono (by omega)) rfl (pa_cons (px_call H_all_live (hr.mono (by omega)) rfl (pa_cons (pv 0) pa_nil)) (pa_cons (pv 1) (pa_cons (pv 2) pa_nil))))) (pss_cons (ps_setDcN (i := 5) (own := [("name", 7)]) rfl sc_told_by.nd rfl rfl (sw_trueD rfl rfl rfl (by decide +kernel)) (zi_seq z (pe_lst (za_star z (px_call H_free_of (hr.mono (by omega)) rfl (pa_cons (pv 0) pa_nil)) (za_star z (pv 1) (za_star z (pv 3) pa_nil))))) (blkOk_by (N := N_told_by) (sc := defScope s_told_by) (by decide +kernel)) (fun _ _ _ _ _ => (pg_name (i := 7) sc_told_by.nd rfl (.inl rfl))) (fun _ _ _ _ _ => (pv 7))) (pss_cons (ps_set (i := 6) sc_told_by.nd rfl (.inr rfl) (px_call H_first_names (hr.mono (by omega)) rfl (pa_cons (pe_callB (zc_len z) rfl G.len boot_len (pa_cons (pv 1) pa_nil)) (pa_cons (pv 5) pa_nil)))) (pss_one (ps_ret (pe_callTy (zc_tuple z) rfl G.tuple boot_tuple (pa_cons (pe_lc (own := [("binder", 8)]) rfl sc_told_by.nd (pi_range1 rfl G.range (pa_cons (pe_callB (zc_len z) rfl G.len boot_len (pa_cons (pv 1) pa_nil)) pa_nil)) (blkOk_by (N := N_told_by) (sc := defScope s_told_by) (by decide +kernel)) (fun _ _ _ _ _ => (pg_name (i := 8) sc_told_by.nd rfl (.inl rfl))) (fun _ _ _ _ _ => pts_nil) (fun _ _ _ _ _ => (pe_ifExp (pt_cmpR (zo_in z) (pv 8) (pv 4) (by with_unfolding_all rfl)) (zx_ix z (pv 1) (pv 8)) (zx_bm z PySem.F.plainAttrs_list PySem.F.slot_list_pop PySem.F.type_list_pop xm_popAt (pv 6) (pa_cons pe_int pa_nil))))) pa_nil))))))), ?_⟩
  have h6 := nmN t
  have hU := usN ht.2.1
  have hb6 := ht.2.2
  have hWl : W.length = (scn t).nm.length := hw.1
  have hn6 : (scn t).nm.length ≤ 6 := by omega
  refine EVS.forget ?_
  refine s_seq (s_set (ev_call (ea_cons (ev_call (ea_cons (ev_var rfl (ea_nil ⟨t, rfl, ht, ?_⟩)))))))
  refine ea_cons (ev_var rfl (ea_cons (ev_var rfl (ea_nil ⟨kk, k', LV (scn t), W, V, rfl, by rw [LV_len, hWl], by rw [hv.1, hWl], by omega, ?_⟩))))
  generalize hK : kept (LV (scn t)) W V = K
  have hKm : ∀ b ∈ K, ∃ s, W[b]? = some (some s) := fun b hb => by
    rw [← hK] at hb
    obtain ⟨s, h1, _⟩ := sel_mem.mp (kept_lt hb)
    exact ⟨s, h1⟩
  have hKf : ((K.map fun i => D.int (i : Nat))).all flatD = true := flat_nat K
  refine s_seq (s_set (ev_dcN [7] (fun _ h => h) (ei_seq (ev_lst (ea_star (ev_call (ea_cons (ev_var rfl (ea_nil ⟨t, rfl, ht, ?_⟩)))))))))
  refine ⟨_, _, rfl, ea_star (ev_var rfl ⟨_, _, rfl, ea_star (ev_var rfl ⟨_, _, rfl, ea_nil ⟨?_, ?_⟩⟩)⟩)⟩
  · have := free_len (S := scn t)
    simp only [List.length_append, List.length_map, List.length_nil]
    exact szl (by omega)
  have eL : (free (scn t)).map D.str ++ (W.map dW ++ ((scn t).nm.map D.str ++ [])) = (shutN (scn t) W).map dW := by
    unfold shutN
    rw [List.append_nil, List.map_append, List.map_append, List.map_map, List.map_map]
    rfl
  refine ⟨_, .q, shutN (scn t) W, eL, ?_, .q, ?_, ?_⟩
  · have := free_len (S := scn t)
    unfold shutN
    simp only [List.length_append, List.length_map]
    omega
  · intro i w hw2
    exact eg_name ⟨rfl, ev_var rfl ⟨rfl, rfl⟩⟩
  refine s_seq (s_set (ev_call (ea_cons (ev_cb (ea_cons (ev_var rfl (ea_nil (.inl ⟨_, _, rfl, .q, ?_⟩))))))))
  refine ea_cons (ev_var rfl (ea_nil ⟨W.length, nset (shutN (scn t) W), by rw [List.length_map], spare_len hU hn6 hWl, fun p hp => ?_⟩))
  have esp : (freshW (nset (shutN (scn t) W))).take W.length = spareN (scn t) W := rfl
  rw [esp]
  have hspl : (spareN (scn t) W).length = W.length := by
    unfold spareN
    rw [List.length_take]
    have := spare_len hU hn6 hWl
    omega
  refine s_ret (ev_cb (ea_cons ?_))
  refine ev_lc [8] (fun _ h => h) (ei_rng (ea_cons (ev_cb (ea_cons (ev_var rfl (ea_nil (.inl ⟨_, _, rfl, .q, ?_⟩)))))))
  refine ea_nil ⟨W.length, by rw [List.length_map], by omega, by omega, ?_⟩
  have hrl : (rgD 0 (W.length : Int).toNat).length = W.length := by simp [rgD]
  refine ⟨by rw [hrl]; exact szl (by omega), fun i acc m => acc = ((List.range i).map (toldAt W K (spareN (scn t) W))).map D.str ∧ m = mupd M p (.lst (((spareN (scn t) W).drop (cntK K i)).map D.str)), ⟨rfl, rfl⟩, fun i acc m hi ⟨e1, e2⟩ => ⟨trivial, by rw [e1]; simp⟩, ?_, ?_⟩
  · rintro i x acc m hx ⟨rfl, rfl⟩
    have hi : i < W.length := by have := (List.getElem?_eq_some_iff.mp hx).1; rw [hrl] at this; exact this
    have hx2 : x = .int (i : Nat) := by
      rw [show (W.length : Int).toNat = W.length from Int.toNat_natCast _, rgD_map, List.getElem?_map, List.getElem?_range hi] at hx
      cases hx; rfl
    subst hx2
    refine eg_name (et_yes ⟨fun _ => ?_, fun q => nomatch q⟩)
    refine ev_if (et_test (ev_op (ev_var rfl (ev_var rfl ⟨_, .q, rfl, hKf, _, rfl, fun h1 => ?_, fun h1 => ?_⟩))))
    · rw [inD_nat] at h1
      have hm := of_decide_eq_true h1
      obtain ⟨s, hs⟩ := hKm i hm
      refine ev_op (ev_var rfl (ev_var rfl ⟨_, rfl, .inl ⟨_, .str s, .q, atI_nat i (by rw [List.getElem?_map, hs]; rfl), ?_, ?_⟩⟩))
      · rw [List.range_succ, List.map_append, List.map_append]
        show _ = _ ++ [D.str (toldAt W K (spareN (scn t) W) i)]
        unfold toldAt
        rw [if_pos hm, List.getD_eq_getElem?_getD, hs]
        rfl
      · rw [cntK_succ, if_pos hm]; rfl
    · rw [inD_nat] at h1
      have hm := of_decide_eq_false h1
      have hc : cntK K i < (spareN (scn t) W).length := by have := cntK_le K i; omega
      have ed : (spareN (scn t) W).drop (cntK K i) = (spareN (scn t) W)[cntK K i] :: (spareN (scn t) W).drop (cntK K i + 1) := List.drop_eq_getElem_cons hc
      refine ev_bm (ev_var rfl ⟨⟨_, .inl ⟨p, rfl, mupd_same⟩⟩, ea_cons (ev_int (ea_nil ⟨p, _, rfl, mupd_same, .str (spareN (scn t) W)[cntK K i], ((spareN (scn t) W).drop (cntK K i + 1)).map D.str, rfl, by rw [ed]; rfl, ?_, ?_⟩))⟩)
      · rw [List.range_succ, List.map_append, List.map_append]
        show _ = _ ++ [D.str (toldAt W K (spareN (scn t) W) i)]
        unfold toldAt
        rw [if_neg hm, List.getD_eq_getElem?_getD, List.getElem?_eq_getElem hc]
        rfl
      · rw [mupd_mupd, cntK_succ, if_neg hm]
  · rintro acc m ⟨rfl, rfl⟩
    rw [hrl]
    refine ⟨by simp; exact szl (by omega), .inl ?_⟩
    refine ea_nil ⟨_, _, rfl, .q, by simp; exact szl (by omega), M, mupd_ex hp, ?_⟩
    unfold told toldL at k
    rw [hK] at k
    exact k
def W_told_kept (CT : Addr) : Fw := fun ds M P => ∃ (t : Tr) (k k' : Bool) (W : List (Option Str)) (V : List Int), ds = [dTm CT t, dWs k W, dVs k' V] ∧ TmOk t ∧ WOk t W ∧ VOk t V ∧ P (.sq false ((told (scn t) W V).map D.str)) M
def N_told_kept : List Str := ["term", "wishes", "weights"]
def P_told_kept : List Str := ["term", "wishes", "weights"]
theorem sc_told_kept : FnScope N_told_kept P_told_kept (defScope s_told_kept) := ⟨rfl, rfl, rfl, by decide +kernel, rfl, by decide +kernel, by decide +kernel⟩
theorem h_told_kept {z : Cz} {mg : Str → Option Value} {base : Heap} {CF CT : Addr} (G : Gf z mg CF CT) (Dd : Df z mg "told_kept" s_told_kept) (H_look_at_both : Has z mg base "look_at_both" P_look_at_both 4 (W_look_at_both CT)) (H_told_by : Has z mg base "told_by" P_told_by 5 (W_told_by CT)) : Has z mg base "told_kept" P_told_kept (5 + 1) (W_told_kept  CT) := by
  refine okDf Dd sc_told_kept (fun _ _ _ _ _ _ us hl => match us, hl with | [_, _, _], _ => rfl) (fun ds M P hw => ?_) (fun f cdv A outer s H E hr ds M P hw => ?_)
  · obtain ⟨t, k, k', W, V, rfl, _⟩ := hw
    rfl
  obtain ⟨t, kk, k', W, V, rfl, ht, hw, hv, k⟩ := hw
  refine ⟨_, (pss_cons (ps_expr (px_call H_look_at_both (hr.mono (by omega)) rfl (pa_cons (pv 0) (pa_cons (pv 1) (pa_cons (pv 2) pa_nil))))) (pss_one (ps_ret (px_call H_told_by (hr.mono (by omega)) rfl (pa_cons (pv 0) (pa_cons (pv 1) (pa_cons (pv 2) (pa_cons (zx_fld z (pv 0)) pa_nil)))))))), ?_⟩
  refine s_seq (s_drop (ev_call (ea_cons (ev_var rfl (ea_cons (ev_var rfl (ea_cons (ev_var rfl (ea_nil ⟨t, kk, k', W, V, rfl, ht, hw, hv, ?_⟩)))))))))
  refine s_ret (ev_call (ea_cons (ev_var rfl (ea_cons (ev_var rfl (ea_cons (ev_var rfl (ea_cons (ev_fldO rfl G.cT (G.nT "own_names" (by simp)) rfl (ea_nil ⟨t, kk, k', W, V, rfl, ht, hw, hv, k⟩))))))))))
def W_most_kept (CT : Addr) : Fw := fun ds M P => ∃ (t : Tr) (k k' : Bool) (W : List (Option Str)) (V : List Int), ds = [dTm CT t, dWs k W, dVs k' V] ∧ TmOk t ∧ WOk t W ∧ VOk t V ∧ P (.int (prices (LV (scn t)) W V).sum) M
def N_most_kept : List Str := ["term", "wishes", "weights"]
def P_most_kept : List Str := ["term", "wishes", "weights"]
theorem sc_most_kept : FnScope N_most_kept P_most_kept (defScope s_most_kept) := ⟨rfl, rfl, rfl, by decide +kernel, rfl, by decide +kernel, by decide +kernel⟩
theorem h_most_kept {z : Cz} {mg : Str → Option Value} {base : Heap} {CF CT : Addr} (G : Gf z mg CF CT) (Dd : Df z mg "most_kept" s_most_kept) (H_look_at_both : Has z mg base "look_at_both" P_look_at_both 4 (W_look_at_both CT)) (H_all_live : Has z mg base "all_live" P_all_live 4 (W_all_live CT)) (H_prices_by : Has z mg base "prices_by" P_prices_by 2 W_prices_by) : Has z mg base "most_kept" P_most_kept (4 + 1) (W_most_kept  CT) := by
  refine okDf Dd sc_most_kept (fun _ _ _ _ _ _ us hl => match us, hl with | [_, _, _], _ => rfl) (fun ds M P hw => ?_) (fun f cdv A outer s H E hr ds M P hw => ?_)
  · obtain ⟨t, k, k', W, V, rfl, _⟩ := hw
    rfl
  obtain ⟨t, kk, k', W, V, rfl, ht, hw, hv, k⟩ := hw
  refine ⟨_, (pss_cons (ps_expr (px_call H_look_at_both (hr.mono (by omega)) rfl (pa_cons (pv 0) (pa_cons (pv 1) (pa_cons (pv 2) pa_nil))))) (pss_one (ps_ret (pe_callB (zc_sum z) rfl G.sum boot_sum (pa_cons (px_call H_prices_by (hr.mono (by omega)) rfl (pa_cons (px_call H_all_live (hr.mono (by omega)) rfl (pa_cons (pv 0) pa_nil)) (pa_cons (pv 1) (pa_cons (pv 2) pa_nil)))) pa_nil))))), ?_⟩
  have h6 := nmN t
  have hb6 := ht.2.2
  have hWl : W.length = (scn t).nm.length := hw.1
  refine s_seq (s_drop (ev_call (ea_cons (ev_var rfl (ea_cons (ev_var rfl (ea_cons (ev_var rfl (ea_nil ⟨t, kk, k', W, V, rfl, ht, hw, hv, ?_⟩)))))))))
  refine s_ret (ev_cb (ea_cons (ev_call (ea_cons (ev_call (ea_cons (ev_var rfl (ea_nil ⟨t, rfl, ht, ?_⟩)))))))) 
  refine ea_cons (ev_var rfl (ea_cons (ev_var rfl (ea_nil ⟨kk, k', LV (scn t), W, V, rfl, by rw [LV_len, hWl], by rw [hv.1, hWl], by omega, ?_⟩))))
  exact ea_nil ⟨_, _, rfl, .q, k⟩
end Lv

set_option Elab.async false
set_option linter.all false
set_option maxRecDepth 100000
set_option maxHeartbeats 4000000
set_option pp.maxSteps 400
set_option pp.deepTerms false
namespace Lv
open PySem PySem.Spec PyProof.Rows L2 StX
local macro_rules
  | `(tactic| walk_at "lv1") => `(tactic| with_reducible (first
    | refine s_set ?_ | refine s_ret ?_ | refine s_if ?_ | refine s_drop ?_ | refine s_next ?_ | refine s_par ?_ | refine s_par3 ?_ | refine s_subL ?_ | refine s_unl2 ?_ | refine s_tup2 ?_ | refine eg_unl2 ?_ | refine eg_unl3 ?_ | refine eg_tup2 ?_
    | refine ev_var rfl ?_ | refine ev_int ?_ | refine ev_str ?_ | refine ev_bl ?_ | refine ev_non ?_ | refine ev_ref ?_
    | refine ev_lst0 ?_ | refine ev_eqE ?_ | refine ev_neE ?_ | refine ev_op ?_ | refine ev_un ?_ | refine ev_isiLT ?_ | refine ev_isi ?_ | refine ev_cb ?_ | refine ev_chain ?_ | refine ev_andV ?_ | refine ev_orV ?_ | refine ev_notV ?_ | refine ev_if ?_ | refine ev_tup ?_ | refine ev_call ?_
    | refine et_and ?_ | refine et_or ?_ | refine et_not ?_ | refine et_test ?_ | refine et_b ?_ | refine et_yes ?_
    | refine ea_cons ?_ | refine ea_nil ?_
    | refine g_int2 ?_ | refine g_bl ?_ | refine g_int ?_ | refine g_addI ?_ | refine g_eqI ?_ | refine g_eqSt ?_ | refine g_eqSf (by decide +kernel) ?_ | refine g_eqS ?_ | refine g_eqIS ?_ | refine g_eqSI ?_ | refine g_eqNS ?_ | refine g_isn ?_
    | refine g_par ?_ | refine g_par3 ?_ | refine g_neg ?_
    | refine g_ifT ?_ | refine g_ifNT ?_ | refine g_ifNF ?_ | refine g_ifF ?_ | refine g_ifD ?_ ?_ | refine g_ifDN ?_ ?_
    | refine eg_name ?_ | refine eg_setL ?_))
local macro_rules
  | `(tactic| walk_at "lvM") => `(tactic| first | assumption | exact mupd_same)
local macro_rules
  | `(tactic| walk_at "lvW") => `(tactic| with_unfolding_all rfl)
local macro_rules
  | `(tactic| walk_at "lvA") => `(tactic| first | with_unfolding_all rfl | with_unfolding_all exact atI_nat 0 rfl | with_unfolding_all exact atI_nat 1 rfl)
local macro_rules
  | `(tactic| walk_at "lv2") => `(tactic| with_reducible (first
    | refine ⟨_, _, (by walk_at "lvW"), kb_ii, ?_⟩ | refine ⟨_, _, (by walk_at "lvW"), kb_ib, ?_⟩ | refine ⟨_, _, (by walk_at "lvW"), kb_is, ?_⟩ | refine ⟨_, _, (by walk_at "lvW"), kb_ss, ?_⟩ | refine ⟨_, _, (by walk_at "lvW"), kb_tt, ?_⟩
    | refine .inl ⟨_, _, rfl, IsS.q, ?_⟩ | refine .inl ⟨_, _, rfl, IsS.r (by walk_at "lvM"), ?_⟩ | refine .inl ⟨_, _, rfl, IsS.sc, ?_⟩
    | refine .inl ⟨_, _, IsS.q, (by walk_at "lvA"), ?_⟩ | refine .inl ⟨_, _, IsS.r (by walk_at "lvM"), (by walk_at "lvA"), ?_⟩
    | refine .inl (g_int2 (And.intro (CMul.l (by omega) (by omega)) ?_)) | refine .inl (g_int2 (And.intro (CMul.r (by omega) (by omega)) ?_))
    | refine And.intro (CDiv.mk (by omega) (by omega)) ?_ | refine And.intro (by omega) ?_ | refine And.intro (Nat.le_of_ble_eq_true (by walk_at "lvW")) ?_
    | refine .inl ⟨_, _, rfl, ?_⟩
    | refine .inl ⟨_, rfl, ?_⟩ | refine .inr ⟨_, rfl, ?_⟩
    | refine ⟨_, _, _, _, rfl, (by walk_at "lvM"), rfl, (by walk_at "lvW"), ?_⟩
    | refine ⟨_, _, rfl, IsL.q, ?_⟩
    | refine ⟨_, rfl, .inl ⟨_, _, IsS.q, (by walk_at "lvA"), ?_⟩⟩))
local macro_rules
  | `(tactic| walk_at "lvm") => `(tactic| repeat' (first | walk_at "lv1" | (with_reducible refine s_seq ?_) | walk_at "lv2" | dsimp only))
local macro_rules
  | `(tactic| walk_at "lve") => `(tactic| repeat' (first | walk_at "lv1" | (with_reducible refine ev_lst ?_) | walk_at "lv2" | dsimp only))
local macro_rules
  | `(tactic| walk_at "lv") => `(tactic| repeat' (first | walk_at "lv1" | (with_reducible refine ev_lst ?_) | (with_reducible refine s_seq ?_) | walk_at "lv2" | dsimp only))
local macro_rules
  | `(tactic| walk_at "lve0") => `(tactic| repeat' (first
    | (with_reducible first | refine ev_var rfl ?_ | refine ev_int ?_ | refine ev_str ?_ | refine et_test ?_ | refine ev_eqE ?_ | refine ev_op ?_ | refine g_bl ?_ | refine g_eqI ?_ | refine g_eqSt ?_ | refine g_eqSf (by decide +kernel) ?_ | refine g_eqS ?_ | refine g_int ?_ | refine g_ifT ?_ | refine g_ifF ?_ | refine g_ifD ?_ ?_) | walk_at "lv2" | dsimp only))
local macro_rules
  | `(tactic| walk_at "lvx") => `(tactic| repeat' (first | (refine fun hx => absurd hx ?_; (with_reducible fail_if_success assumption); simp; done) | (refine fun _ => ?_; walk_at "lv")))
def pgk (S : Scn) (X Y : D) (b : Bool) : List (Key × D) := pg0 S X Y ++ (if b then [(.inr "live", dLv (LV S))] else [])
section
variable {S : Scn} {X Y : D} {b : Bool}
theorem pv_names : valD (pgk S X Y b) (.inr "names") = some (.sq true (S.nm.map D.str)) := by
  unfold pgk pg0
  rw [List.cons_append, valD_hit]
theorem pv_uses : valD (pgk S X Y b) (.inr "uses") = some (.sq true (S.us.map (dUse S.nm))) := by
  unfold pgk pg0
  rw [List.cons_append, valD_skip (by decide +kernel), List.cons_append, valD_hit]
theorem pv_around : valD (pgk S X Y b) (.inr "around") = some (.sq true (S.ar.map dAr)) := by
  unfold pgk pg0
  rw [List.cons_append, valD_skip (by decide +kernel), List.cons_append, valD_skip (by decide +kernel), List.cons_append, valD_hit]
theorem pv_live1 : valD (pgk S X Y true) (.inr "live") = some (dLv (LV S)) := by
  unfold pgk pg0
  rw [List.cons_append, valD_skip (by decide +kernel), List.cons_append, valD_skip (by decide +kernel), List.cons_append, valD_skip (by decide +kernel), List.cons_append, valD_skip (by decide +kernel), List.cons_append, valD_skip (by decide +kernel), if_pos rfl]
  exact valD_hit
theorem pv_live0 : valD (pgk S X Y false) (.inr "live") = none := by
  unfold pgk pg0
  rw [List.cons_append, valD_skip (by decide +kernel), List.cons_append, valD_skip (by decide +kernel), List.cons_append, valD_skip (by decide +kernel), List.cons_append, valD_skip (by decide +kernel), List.cons_append, valD_skip (by decide +kernel)]
  rfl
theorem pg_put : putD (pgk S X Y false) (.inr "live") (dLv (LV S)) = pgk S X Y true := by
  rw [putD_new]
  · unfold pgk
    rw [if_neg (by simp), if_pos rfl, List.append_nil]
  · intro e he
    unfold pgk pg0 at he
    simp only [Bool.false_eq_true, if_false, List.append_nil, List.mem_cons, List.not_mem_nil, or_false] at he
    rcases he with rfl | rfl | rfl | rfl | rfl
    · exact (by decide +kernel : (Sum.inr "names" : Key) ≠ .inr "live")
    · exact (by decide +kernel : (Sum.inr "uses" : Key) ≠ .inr "live")
    · exact (by decide +kernel : (Sum.inr "around" : Key) ≠ .inr "live")
    · exact (by decide +kernel : (Sum.inr "all" : Key) ≠ .inr "live")
    · exact (by decide +kernel : (Sum.inr "nodes" : Key) ≠ .inr "live")
end
/-- page[k], the page at slot i -/
theorem ev_pg {z : Cz} {Γ : Gam} {M : Mem} {P : D → Mem → Prop} {i : Nat} {p : Addr} {kvs : List (Key × D)} {k : Str} {v : D} (hi : Γ[i]? = some (some (.ref p))) (hp : M p = some (.dK kvs)) (hv : valD kvs (.inr k) = some v) (q : P v M) : EV z (tDGet (tVar i) (tC (.str k))) Γ M P :=
  ev_dget (ev_var hi (ev_str ⟨p, kvs, .inr k, v, rfl, hp, rfl, hv, q⟩))
def W_law_free : Fw := fun ds M P => ∃ (t : Tr) (p : Addr) (X Y : D) (b : Bool), ds = [.ref p] ∧ TmOk t ∧ M p = some (.dK (pgk (scn t) X Y b)) ∧ P (.sq true ((free (scn t)).map D.str)) M
def N_law_free : List Str := ["_law_page_here", "_law_use"]
def P_law_free : List Str := ["_law_page_here"]
theorem sc_law_free : FnScope N_law_free P_law_free (defScope s_law_free) := ⟨rfl, rfl, rfl, by decide +kernel, rfl, by decide +kernel, by decide +kernel⟩
theorem h_law_free {z : Cz} {mg : Str → Option Value} {base : Heap} {CF CT : Addr} (G : Gf z mg CF CT) (Dd : Df z mg "_law_free" s_law_free) (H_law_in_order : Has z mg base "_law_in_order" P_law_in_order 2 W_law_in_order) : Has z mg base "_law_free" P_law_free (2 + 1) (W_law_free) := by
  refine okDf Dd sc_law_free (fun _ _ _ _ _ _ us hl => match us, hl with | [_], _ => rfl) (fun ds M P hw => ?_) (fun f cdv A outer s H E hr ds M P hw => ?_)
  · obtain ⟨t, p, X, Y, b, rfl, _⟩ := hw
    rfl
  obtain ⟨t, p, X, Y, b, rfl, ⟨ho, hn, hb⟩, hp, k⟩ := hw
  refine ⟨_, (pss_one (ps_ret (px_call H_law_in_order (hr.mono (by omega)) rfl (pa_cons (pe_lc (own := [("_law_use", 1)]) rfl sc_law_free.nd (zi_seq z (pe_dget (hu_of hr) (pv 0) pe_str (fun _ _ => rfl))) (blkOk_by (N := N_law_free) (sc := defScope s_law_free) (by decide +kernel)) (fun _ _ _ _ _ => (pg_name (i := 1) sc_law_free.nd rfl (.inl rfl))) (fun _ _ _ _ _ => (pts_one (pt_val (pe_callB (zc_isi z) rfl G.isinstance boot_isinstance (pa_cons (zx_ix z (pv 1) pe_int) (pa_cons (px_ty G.str boot_str2 rfl) pa_nil)))))) (fun _ _ _ _ _ => (zx_ix z (pv 1) pe_int))) pa_nil)))), ?_⟩
  have snd := sound_scn ho
  have hU := usN hn
  refine s_ret (ev_call (ea_cons ?_))
  refine ev_lcX [1] (fun _ h => h) (scn t).us (dUse (scn t).nm) (fun u => (strOf (mng (scn t).nm u)).isSome) (fun u => kD (mng (scn t).nm u)) (ei_seq (ev_pg rfl hp pv_uses ⟨_, .q, rfl, szl (by omega), .q, ?_, ?_, .inl ?_⟩))
  · intro i u hu
    refine eg_name ⟨rfl, et_b (ev_isi (ev_op (ev_var rfl (ev_int ⟨2, rfl, .inl ⟨_, kD (mng (scn t).nm u), .q, rfl, ?_⟩⟩))))⟩
    cases q : mng (scn t).nm u with
    | inl i => exact ⟨_, _, rfl, kb_is, _, rfl, rfl, rfl, fun q => nomatch q⟩
    | inr s =>
      refine ⟨_, _, rfl, kb_ss, _, rfl, rfl, rfl, fun _ => ev_op (ev_var rfl (ev_int ⟨2, rfl, .inl ⟨_, kD (mng (scn t).nm u), .q, rfl, ?_, rfl⟩⟩))⟩
      rw [q]
  · rw [List.length_map]; exact Nat.le_trans (List.length_filter_le _ _) (szl (by omega))
  · rw [strs_eq]
    refine ea_nil ⟨_, rfl, Nat.le_trans (List.length_filterMap_le _ _) (by omega), free_ok snd, ?_⟩
    rw [uniq_uq]
    exact k
def W_law_inside : Fw := fun ds M P => ∃ (t : Tr) (p : Addr) (X Y : D) (b : Bool) (o c : Nat), ds = [.ref p, .int (o : Nat), .int (c : Nat)] ∧ TmOk t ∧ M p = some (.dK (pgk (scn t) X Y b)) ∧ c < (scn t).ar.length ∧ P (.bl (decide (o ∈ (scn t).ar.getD c []))) M
def N_law_inside : List Str := ["_law_page_here", "_law_outer", "_law_core"]
def P_law_inside : List Str := ["_law_page_here", "_law_outer", "_law_core"]
theorem sc_law_inside : FnScope N_law_inside P_law_inside (defScope s_law_inside) := ⟨rfl, rfl, rfl, by decide +kernel, rfl, by decide +kernel, by decide +kernel⟩
theorem h_law_inside {z : Cz} {mg : Str → Option Value} {base : Heap} {CF CT : Addr} (G : Gf z mg CF CT) (Dd : Df z mg "_law_inside" s_law_inside)  : Has z mg base "_law_inside" P_law_inside (0 + 1) (W_law_inside) := by
  refine okDf Dd sc_law_inside (fun _ _ _ _ _ _ us hl => match us, hl with | [_, _, _], _ => rfl) (fun ds M P hw => ?_) (fun f cdv A outer s H E hr ds M P hw => ?_)
  · obtain ⟨t, p, X, Y, b, o, c, rfl, _⟩ := hw
    rfl
  obtain ⟨t, p, X, Y, b, o, c, rfl, ht, hp, hc, k⟩ := hw
  refine ⟨_, (pss_one (ps_ret (pe_cmpR (zo_in z) (pv 1) (zx_ix z (pe_dget (hu_of hr) (pv 0) pe_str (fun _ _ => rfl)) (pv 2)) (by with_unfolding_all rfl)))), ?_⟩
  refine s_ret (ev_op (ev_var rfl (ev_op (ev_pg rfl hp pv_around (ev_var rfl ⟨_, rfl, .inl ⟨_, dAr ((scn t).ar.getD c []), .q, atI_nat c ?_, ?_⟩⟩)))))
  · rw [List.getElem?_map, List.getElem?_eq_getElem hc, List.getD_eq_getElem?_getD, List.getElem?_eq_getElem hc]; rfl
  refine ⟨_, .q, rfl, flat_nat _, ?_⟩
  unfold dN
  rw [inD_nat]
  exact k
theorem unlike_ints (xs : List Int) : unlike (xs.map D.int) = (uq xs).map D.int := by
  have : ∀ (ys acc : List Int), (ys.map D.int).foldl (fun acc x => if inD x acc = true then acc else acc ++ [x]) (acc.map D.int) = (ys.foldl (fun acc x => if x ∈ acc then acc else acc ++ [x]) acc).map D.int := by
    intro ys
    induction ys with
    | nil => intro acc; rfl
    | cons y ys ih =>
      intro acc
      rw [List.map_cons, List.foldl_cons, List.foldl_cons, inD_int]
      by_cases hy : y ∈ acc
      · rw [if_pos (by simpa using hy), if_pos hy, ih]
      · rw [if_neg (by simpa using hy), if_neg hy, ← ih, List.map_append]; rfl
  exact this xs []
/-- around a use that lies in b: the meaning is a binder ahead of b just when it is around b -/
theorem in_around {S : Scn} (s : Sound S) {u : Str × List Nat} (hu : u ∈ S.us) {b m : Nat} (hb : b ∈ u.2) (hm : m ∈ u.2) : m < b ↔ m ∈ S.ar.getD b [] := by
  obtain ⟨i, hi, ei⟩ := List.getElem_of_mem hb
  obtain ⟨j, hj, ej⟩ := List.getElem_of_mem hm
  have hib : u.2[i]? = some b := by rw [List.getElem?_eq_getElem hi, ei]
  have hjm : u.2[j]? = some m := by rw [List.getElem?_eq_getElem hj, ej]
  have ab := s.usA u hu i b hib
  have am := s.usA u hu j m hjm
  rw [List.getD_eq_getElem?_getD, ab]
  show m < b ↔ m ∈ u.2.take i
  constructor
  · intro h
    rcases Nat.lt_trichotomy j i with h1 | h1 | h1
    · exact List.mem_iff_getElem?.mpr ⟨j, by rw [List.getElem?_take, if_pos h1]; exact hjm⟩
    · subst h1
      rw [hib] at hjm
      cases hjm
      omega
    · have : b ∈ u.2.take j := List.mem_iff_getElem?.mpr ⟨i, by rw [List.getElem?_take, if_pos h1]; exact hib⟩
      have := s.arB m _ am b this
      omega
  · intro h
    exact s.arB b _ ab m h
theorem mng_in {nm : List Str} {u : Str × List Nat} {i : Int} (h : mng nm u = .inl i) : ∃ m : Nat, i = m ∧ m ∈ u.2 := by
  unfold mng at h
  split at h
  · rename_i b hb
    cases h
    exact ⟨b, rfl, (List.mem_filter.mp (List.mem_of_getLast? hb)).1⟩
  · cases h
def outOf (S : Scn) (b : Nat) (u : Str × List Nat) : Bool := match mng S.nm u with
  | .inl i => decide (i.toNat ∈ S.ar.getD b [])
  | .inr _ => false
theorem live_law {S : Scn} (s : Sound S) (b : Nat) : live S b = (isort (uq (((S.us.filter fun u => decide (b ∈ u.2)).filter (outOf S b)).filterMap fun u => intOf (mng S.nm u)))).map .inl ++ (srt (uq ((S.us.filter fun u => decide (b ∈ u.2)).filterMap fun u => strOf (mng S.nm u)))).map .inr := by
  unfold live lineK
  have hi : (uq (metIn S S.us b)).filterMap intOf = uq (((S.us.filter fun u => decide (b ∈ u.2)).filter (outOf S b)).filterMap fun u => intOf (mng S.nm u)) := by
    rw [uq_filterMap (f := intOf) (fun a c d h1 h2 => by cases a <;> cases c <;> simp [intOf] at h1 h2 ⊢; rw [h1, h2])]
    congr 1
    unfold metIn
    rw [List.filterMap_map, List.filter_filter]
    have : ∀ us : List (Str × List Nat), (∀ u ∈ us, u ∈ S.us) → (us.filter fun u => decide (b ∈ innK u.2 (mng S.nm u))).filterMap (intOf ∘ mng S.nm) = (us.filter fun u => outOf S b u && decide (b ∈ u.2)).filterMap fun u => intOf (mng S.nm u) := by
      intro us
      induction us with
      | nil => intro _; rfl
      | cons u us ih =>
        intro hs
        have hu := hs u List.mem_cons_self
        have ih' := ih fun v hv => hs v (List.mem_cons_of_mem _ hv)
        cases q : mng S.nm u with
        | inr t =>
          have e1 : outOf S b u = false := by unfold outOf; rw [q]
          have e2 : ((u :: us).filter fun u => outOf S b u && decide (b ∈ u.2)) = us.filter fun u => outOf S b u && decide (b ∈ u.2) := List.filter_cons_of_neg (by rw [e1]; simp)
          rw [e2, ← ih']
          by_cases h : b ∈ innK u.2 (mng S.nm u)
          · rw [List.filter_cons_of_pos (by simpa using h), List.filterMap_cons_none (by show intOf (mng S.nm u) = none; rw [q]; rfl)]
          · rw [List.filter_cons_of_neg (by simpa using h)]
        | inl i =>
          obtain ⟨m, rfl, hm⟩ := mng_in q
          have hiff : b ∈ innK u.2 (mng S.nm u) ↔ (outOf S b u && decide (b ∈ u.2)) = true := by
            rw [q]
            unfold outOf
            rw [q]
            show b ∈ u.2.filter (fun c => decide ((m : Int) < (c : Nat))) ↔ (decide ((m : Int).toNat ∈ S.ar.getD b []) && decide (b ∈ u.2)) = true
            rw [List.mem_filter, Int.toNat_natCast, Bool.and_eq_true, decide_eq_true_iff, decide_eq_true_iff, decide_eq_true_iff]
            constructor
            · rintro ⟨h1, h2⟩
              exact ⟨(in_around s hu h1 hm).mp (by omega), h1⟩
            · rintro ⟨h1, h2⟩
              have := (in_around s hu h2 hm).mpr h1
              exact ⟨h2, by omega⟩
          by_cases h : b ∈ innK u.2 (mng S.nm u)
          · rw [List.filter_cons_of_pos (by simpa using h), List.filter_cons_of_pos (p := fun u => outOf S b u && decide (b ∈ u.2)) (hiff.mp h), List.filterMap_cons_some (b := (m : Int)) (by show intOf (mng S.nm u) = _; rw [q]; rfl), List.filterMap_cons_some (b := (m : Int)) (by rw [q]; rfl), ih']
          · rw [List.filter_cons_of_neg (by simpa using h), List.filter_cons_of_neg (p := fun u => outOf S b u && decide (b ∈ u.2)) (fun h2 => h (hiff.mpr h2)), ih']
    exact this S.us fun _ h => h
  have hs : uq ((uq (metIn S S.us b)).filterMap strOf) = uq ((S.us.filter fun u => decide (b ∈ u.2)).filterMap fun u => strOf (mng S.nm u)) := by
    rw [uq_filterMap (f := strOf) (fun a c d h1 h2 => by cases a <;> cases c <;> simp [strOf] at h1 h2 ⊢; rw [h1, h2])]
    have hid : ∀ xs : List Str, uq (uq xs) = uq xs := by
      intro xs
      have := uq_nodup xs
      have key : ∀ (ys acc : List Str), (acc ++ ys).Nodup → ys.foldl (fun acc x => if x ∈ acc then acc else acc ++ [x]) acc = acc ++ ys := by
        intro ys
        induction ys with
        | nil => intro acc _; simp
        | cons y ys ih =>
          intro acc hnd
          rw [List.foldl_cons]
          have hny : y ∉ acc := by
            intro h
            have := (List.nodup_append.mp hnd).2.2 y h y List.mem_cons_self
            exact this rfl
          rw [if_neg hny, ih _ (by rw [List.append_assoc]; exact hnd), List.append_assoc]
          rfl
      have h := key (uq xs) [] (by simpa using this)
      rw [List.nil_append] at h
      exact h
    rw [hid]
    congr 1
    unfold metIn
    rw [List.filterMap_map]
    have : ∀ us : List (Str × List Nat), (us.filter fun u => decide (b ∈ innK u.2 (mng S.nm u))).filterMap (strOf ∘ mng S.nm) = (us.filter fun u => decide (b ∈ u.2)).filterMap fun u => strOf (mng S.nm u) := by
      intro us
      induction us with
      | nil => rfl
      | cons u us ih =>
        cases q : mng S.nm u with
        | inr t =>
          have e : (b ∈ innK u.2 (mng S.nm u)) = (b ∈ u.2) := by rw [q]; rfl
          by_cases h : b ∈ u.2
          · rw [List.filter_cons_of_pos (by simpa [e] using h), List.filter_cons_of_pos (by simpa using h), List.filterMap_cons_some (b := t) (by show strOf (mng S.nm u) = _; rw [q]; rfl), List.filterMap_cons_some (b := t) (by rw [q]; rfl), ih]
          · rw [List.filter_cons_of_neg (by simpa [e] using h), List.filter_cons_of_neg (by simpa using h), ih]
        | inl i =>
          have e1 : ((u :: us).filter fun u => decide (b ∈ innK u.2 (mng S.nm u))).filterMap (strOf ∘ mng S.nm) = (us.filter fun u => decide (b ∈ innK u.2 (mng S.nm u))).filterMap (strOf ∘ mng S.nm) := by
            by_cases h : b ∈ innK u.2 (mng S.nm u)
            · rw [List.filter_cons_of_pos (by simpa using h), List.filterMap_cons_none (by show strOf (mng S.nm u) = none; rw [q]; rfl)]
            · rw [List.filter_cons_of_neg (by simpa using h)]
          have e2 : ((u :: us).filter fun u => decide (b ∈ u.2)).filterMap (fun u => strOf (mng S.nm u)) = (us.filter fun u => decide (b ∈ u.2)).filterMap fun u => strOf (mng S.nm u) := by
            by_cases h : b ∈ u.2
            · rw [List.filter_cons_of_pos (by simpa using h), List.filterMap_cons_none (by rw [q]; rfl)]
            · rw [List.filter_cons_of_neg (by simpa using h)]
          rw [e1, e2, ih]
    exact this S.us
  rw [hi, hs]
end Lv

set_option Elab.async false
set_option linter.all false
set_option maxRecDepth 100000
set_option maxHeartbeats 4000000
set_option pp.maxSteps 400
set_option pp.deepTerms false
namespace Lv
open PySem PySem.Spec PyProof.Rows L2 StX
local macro_rules
  | `(tactic| walk_at "lv1") => `(tactic| with_reducible (first
    | refine s_set ?_ | refine s_ret ?_ | refine s_if ?_ | refine s_drop ?_ | refine s_next ?_ | refine s_par ?_ | refine s_par3 ?_ | refine s_subL ?_ | refine s_unl2 ?_ | refine s_tup2 ?_ | refine eg_unl2 ?_ | refine eg_unl3 ?_ | refine eg_tup2 ?_
    | refine ev_var rfl ?_ | refine ev_int ?_ | refine ev_str ?_ | refine ev_bl ?_ | refine ev_non ?_ | refine ev_ref ?_
    | refine ev_lst0 ?_ | refine ev_eqE ?_ | refine ev_neE ?_ | refine ev_op ?_ | refine ev_un ?_ | refine ev_isiLT ?_ | refine ev_isi ?_ | refine ev_cb ?_ | refine ev_chain ?_ | refine ev_andV ?_ | refine ev_orV ?_ | refine ev_notV ?_ | refine ev_if ?_ | refine ev_tup ?_ | refine ev_call ?_
    | refine et_and ?_ | refine et_or ?_ | refine et_not ?_ | refine et_test ?_ | refine et_b ?_ | refine et_yes ?_
    | refine ea_cons ?_ | refine ea_nil ?_
    | refine g_int2 ?_ | refine g_bl ?_ | refine g_int ?_ | refine g_addI ?_ | refine g_eqI ?_ | refine g_eqSt ?_ | refine g_eqSf (by decide +kernel) ?_ | refine g_eqS ?_ | refine g_eqIS ?_ | refine g_eqSI ?_ | refine g_eqNS ?_ | refine g_isn ?_
    | refine g_par ?_ | refine g_par3 ?_ | refine g_neg ?_
    | refine g_ifT ?_ | refine g_ifNT ?_ | refine g_ifNF ?_ | refine g_ifF ?_ | refine g_ifD ?_ ?_ | refine g_ifDN ?_ ?_
    | refine eg_name ?_ | refine eg_setL ?_))
local macro_rules
  | `(tactic| walk_at "lvM") => `(tactic| first | assumption | exact mupd_same)
local macro_rules
  | `(tactic| walk_at "lvW") => `(tactic| with_unfolding_all rfl)
local macro_rules
  | `(tactic| walk_at "lvA") => `(tactic| first | with_unfolding_all rfl | with_unfolding_all exact atI_nat 0 rfl | with_unfolding_all exact atI_nat 1 rfl)
local macro_rules
  | `(tactic| walk_at "lv2") => `(tactic| with_reducible (first
    | refine ⟨_, _, (by walk_at "lvW"), kb_ii, ?_⟩ | refine ⟨_, _, (by walk_at "lvW"), kb_ib, ?_⟩ | refine ⟨_, _, (by walk_at "lvW"), kb_is, ?_⟩ | refine ⟨_, _, (by walk_at "lvW"), kb_ss, ?_⟩ | refine ⟨_, _, (by walk_at "lvW"), kb_tt, ?_⟩
    | refine .inl ⟨_, _, rfl, IsS.q, ?_⟩ | refine .inl ⟨_, _, rfl, IsS.r (by walk_at "lvM"), ?_⟩ | refine .inl ⟨_, _, rfl, IsS.sc, ?_⟩
    | refine .inl ⟨_, _, IsS.q, (by walk_at "lvA"), ?_⟩ | refine .inl ⟨_, _, IsS.r (by walk_at "lvM"), (by walk_at "lvA"), ?_⟩
    | refine .inl (g_int2 (And.intro (CMul.l (by omega) (by omega)) ?_)) | refine .inl (g_int2 (And.intro (CMul.r (by omega) (by omega)) ?_))
    | refine And.intro (CDiv.mk (by omega) (by omega)) ?_ | refine And.intro (by omega) ?_ | refine And.intro (Nat.le_of_ble_eq_true (by walk_at "lvW")) ?_
    | refine .inl ⟨_, _, rfl, ?_⟩
    | refine .inl ⟨_, rfl, ?_⟩ | refine .inr ⟨_, rfl, ?_⟩
    | refine ⟨_, _, _, _, rfl, (by walk_at "lvM"), rfl, (by walk_at "lvW"), ?_⟩
    | refine ⟨_, _, rfl, IsL.q, ?_⟩
    | refine ⟨_, rfl, .inl ⟨_, _, IsS.q, (by walk_at "lvA"), ?_⟩⟩))
local macro_rules
  | `(tactic| walk_at "lvm") => `(tactic| repeat' (first | walk_at "lv1" | (with_reducible refine s_seq ?_) | walk_at "lv2" | dsimp only))
local macro_rules
  | `(tactic| walk_at "lve") => `(tactic| repeat' (first | walk_at "lv1" | (with_reducible refine ev_lst ?_) | walk_at "lv2" | dsimp only))
local macro_rules
  | `(tactic| walk_at "lv") => `(tactic| repeat' (first | walk_at "lv1" | (with_reducible refine ev_lst ?_) | (with_reducible refine s_seq ?_) | walk_at "lv2" | dsimp only))
local macro_rules
  | `(tactic| walk_at "lve0") => `(tactic| repeat' (first
    | (with_reducible first | refine ev_var rfl ?_ | refine ev_int ?_ | refine ev_str ?_ | refine et_test ?_ | refine ev_eqE ?_ | refine ev_op ?_ | refine g_bl ?_ | refine g_eqI ?_ | refine g_eqSt ?_ | refine g_eqSf (by decide +kernel) ?_ | refine g_eqS ?_ | refine g_int ?_ | refine g_ifT ?_ | refine g_ifF ?_ | refine g_ifD ?_ ?_) | walk_at "lv2" | dsimp only))
local macro_rules
  | `(tactic| walk_at "lvx") => `(tactic| repeat' (first | (refine fun hx => absurd hx ?_; (with_reducible fail_if_success assumption); simp; done) | (refine fun _ => ?_; walk_at "lv")))
theorem outer_eq {S : Scn} {b : Nat} (us : List (Str × List Nat)) : (us.filter (outOf S b)).map (fun u => kD (mng S.nm u)) = ((us.filter (outOf S b)).filterMap fun u => intOf (mng S.nm u)).map D.int := by
  induction us with
  | nil => rfl
  | cons u us ih =>
    cases q : mng S.nm u with
    | inr s =>
      have e1 : outOf S b u = false := by unfold outOf; rw [q]
      rw [List.filter_cons_of_neg (by rw [e1]; simp)]
      exact ih
    | inl i =>
      by_cases h : outOf S b u = true
      · rw [List.filter_cons_of_pos h, List.map_cons, List.filterMap_cons_some (b := i) (by rw [q]; rfl), List.map_cons, ih, q]; rfl
      · rw [List.filter_cons_of_neg h]; exact ih
def W_law_live : Fw := fun ds M P => ∃ (t : Tr) (p : Addr) (X Y : D) (bb : Bool) (b : Nat), ds = [.ref p, .int (b : Nat)] ∧ TmOk t ∧ M p = some (.dK (pgk (scn t) X Y bb)) ∧ b < (scn t).nm.length ∧ P (.sq true ((live (scn t) b).map kD)) M
def N_law_live : List Str := ["_law_page_here", "_law_binder", "_law_near", "_law_outer", "_law_use"]
def P_law_live : List Str := ["_law_page_here", "_law_binder"]
theorem sc_law_live : FnScope N_law_live P_law_live (defScope s_law_live) := ⟨rfl, rfl, rfl, by decide +kernel, rfl, by decide +kernel, by decide +kernel⟩
theorem h_law_live {z : Cz} {mg : Str → Option Value} {base : Heap} {CF CT : Addr} (G : Gf z mg CF CT) (Dd : Df z mg "_law_live" s_law_live) (H_law_inside : Has z mg base "_law_inside" P_law_inside 1 W_law_inside) (H_law_unlike : Has z mg base "_law_unlike" P_law_unlike 1 W_law_unlike) (H_law_in_order : Has z mg base "_law_in_order" P_law_in_order 2 W_law_in_order) : Has z mg base "_law_live" P_law_live (2 + 1) (W_law_live) := by
  refine okDf Dd sc_law_live (fun _ _ _ _ _ _ us hl => match us, hl with | [_, _], _ => rfl) (fun ds M P hw => ?_) (fun f cdv A outer s H E hr ds M P hw => ?_)
  · obtain ⟨t, p, X, Y, bb, b, rfl, _⟩ := hw
    rfl
  obtain ⟨t, p, X, Y, bb, b, rfl, ⟨ho, hn, hb6⟩, hp, hb, k⟩ := hw
  refine ⟨_, (pss_cons (ps_setLc (i := 2) (own := [("_law_use", 4)]) rfl sc_law_live.nd rfl rfl (sw_true rfl rfl rfl (by decide +kernel)) (zi_seq z (pe_dget (hu_of hr) (pv 0) pe_str (fun _ _ => rfl))) (blkOk_by (N := N_law_live) (sc := defScope s_law_live) (by decide +kernel)) (fun _ _ _ _ _ => (pg_name (i := 4) sc_law_live.nd rfl (.inl rfl))) (fun _ _ _ _ _ => (pts_one (pt_cmpR (zo_in z) (pv 1) (zx_ix z (pv 4) pe_int) (by with_unfolding_all rfl)))) (fun _ _ _ _ _ => (pv 4))) (pss_cons (ps_setLc (i := 3) (own := [("_law_use", 4)]) rfl sc_law_live.nd rfl rfl (sw_true rfl rfl rfl (by decide +kernel)) (zi_seq z (pv 2)) (blkOk_by (N := N_law_live) (sc := defScope s_law_live) (by decide +kernel)) (fun _ _ _ _ _ => (pg_name (i := 4) sc_law_live.nd rfl (.inl rfl))) (fun _ _ _ _ _ => (pts_one (PW.pt (pw_and (pt_not (pt_val (pe_callB (zc_isi z) rfl G.isinstance boot_isinstance (pa_cons (zx_ix z (pv 4) pe_int) (pa_cons (px_ty G.str boot_str2 rfl) pa_nil))))) (pw_and1 (pt_val (px_call H_law_inside (hr.mono (by omega)) rfl (pa_cons (pv 0) (pa_cons (zx_ix z (pv 4) pe_int) (pa_cons (pv 1) pa_nil)))))))))) (fun _ _ _ _ _ => (zx_ix z (pv 4) pe_int))) (pss_one (ps_ret (pe_op ox_add (pe_callB (zc_sorted z) rfl G.sorted boot_sorted (pa_cons (px_call H_law_unlike (hr.mono (by omega)) rfl (pa_cons (pv 3) pa_nil)) pa_nil)) (px_call H_law_in_order (hr.mono (by omega)) rfl (pa_cons (pe_lc (own := [("_law_use", 4)]) rfl sc_law_live.nd (zi_seq z (pv 2)) (blkOk_by (N := N_law_live) (sc := defScope s_law_live) (by decide +kernel)) (fun _ _ _ _ _ => (pg_name (i := 4) sc_law_live.nd rfl (.inl rfl))) (fun _ _ _ _ _ => (pts_one (pt_val (pe_callB (zc_isi z) rfl G.isinstance boot_isinstance (pa_cons (zx_ix z (pv 4) pe_int) (pa_cons (px_ty G.str boot_str2 rfl) pa_nil)))))) (fun _ _ _ _ _ => (zx_ix z (pv 4) pe_int))) pa_nil))))))), ?_⟩
  have snd := sound_scn ho
  have hU := usN hn
  have hba : b < (scn t).ar.length := by rw [snd.len]; exact hb
  refine s_seq (s_set ?_)
  refine ev_lcX [4] (fun _ h => h) (scn t).us (dUse (scn t).nm) (fun u => decide (b ∈ u.2)) (dUse (scn t).nm) (ei_seq (ev_pg rfl hp pv_uses ⟨_, .q, rfl, szl (by omega), .q, ?_, ?_, .inl ?_⟩))
  · intro i u hu
    refine eg_name ⟨rfl, et_test (ev_op (ev_var rfl (ev_op (ev_var rfl (ev_int ?_)))))⟩
    refine ⟨1, rfl, .inl ⟨_, .sq true (dN u.2), .q, rfl, ?_⟩⟩
    refine ⟨_, .q, rfl, flat_nat _, ?_⟩
    unfold dN
    rw [inD_nat]
    exact ⟨_, rfl, rfl, rfl, fun _ => ev_var rfl ⟨rfl, rfl⟩⟩
  · rw [List.length_map]; exact Nat.le_trans (List.length_filter_le _ _) (szl (by omega))
  generalize hN : ((scn t).us.filter fun u => decide (b ∈ u.2)) = near
  have hnl : near.length ≤ 25 := by rw [← hN]; exact Nat.le_trans (List.length_filter_le _ _) hU
  have hnu : ∀ u ∈ near, u ∈ (scn t).us := fun u hu => by rw [← hN] at hu; exact (List.mem_filter.mp hu).1
  refine s_seq (s_set ?_)
  refine ev_lcX [4] (fun _ h => h) near (dUse (scn t).nm) (outOf (scn t) b) (fun u => kD (mng (scn t).nm u)) (ei_seq (ev_var rfl ⟨_, .q, rfl, szl (by omega), .q, ?_, ?_, .inl ?_⟩))
  · intro i u hu
    have hu' := hnu u (List.mem_of_getElem? hu)
    refine eg_name ⟨rfl, et_and (et_not (et_b (ev_isi (ev_op (ev_var rfl (ev_int ?_))))))⟩
    refine ⟨2, rfl, .inl ⟨_, kD (mng (scn t).nm u), .q, rfl, ?_⟩⟩
    cases q : mng (scn t).nm u with
    | inr s =>
      refine ⟨_, _, rfl, kb_ss, _, rfl, (fun q => nomatch q), fun _ => ⟨?_, rfl, fun q => nomatch q⟩⟩
      unfold outOf; rw [q]
    | inl i =>
      obtain ⟨m, rfl, hm⟩ := mng_in q
      refine ⟨_, _, rfl, kb_is, _, rfl, fun _ => ?_, fun q => nomatch q⟩
      refine et_b (ev_call (ea_cons (ev_var rfl (ea_cons (ev_op (ev_var rfl (ev_int ?_)))))))
      refine ⟨2, rfl, .inl ⟨_, kD (mng (scn t).nm u), .q, rfl, ?_⟩⟩
      rw [q]
      refine ea_cons (ev_var rfl (ea_nil ⟨t, p, X, Y, bb, m, b, rfl, ⟨ho, hn, hb6⟩, hp, hba, _, rfl, ?_, rfl, fun _ => ev_op (ev_var rfl (ev_int ?_))⟩))
      · unfold outOf; rw [q]; rfl
      · refine ⟨2, rfl, .inl ⟨_, kD (mng (scn t).nm u), .q, rfl, ?_, rfl⟩⟩
        rw [q]
  · rw [List.length_map]; exact Nat.le_trans (List.length_filter_le _ _) (szl (by omega))
  rw [outer_eq]
  generalize hO : (near.filter (outOf (scn t) b)).filterMap (fun u => intOf (mng (scn t).nm u)) = outer
  have hol : outer.length ≤ 25 := by rw [← hO]; exact Nat.le_trans (List.length_filterMap_le _ _) (Nat.le_trans (List.length_filter_le _ _) hnl)
  refine s_ret (ev_op (ev_cb (ea_cons (ev_call (ea_cons (ev_var rfl (ea_nil ⟨_, rfl, flat_ints _, by rw [List.length_map]; exact szl (by omega), ?_⟩)))))))
  rw [unlike_ints]
  refine ea_nil ⟨_, uq outer, rfl, .q, fun ns' h1 h2 => ?_⟩
  have e1 := isort_eq h1 h2
  subst e1
  have hul := uq_len outer
  refine ⟨by rw [List.length_map, isort_len]; exact szl (by omega), .inl ?_⟩
  refine ev_call (ea_cons ?_)
  refine ev_lcX [4] (fun _ h => h) near (dUse (scn t).nm) (fun u => (strOf (mng (scn t).nm u)).isSome) (fun u => kD (mng (scn t).nm u)) (ei_seq (ev_var rfl ⟨_, .q, rfl, szl (by omega), .q, ?_, ?_, .inl ?_⟩))
  · intro i u hu
    refine eg_name ⟨rfl, et_b (ev_isi (ev_op (ev_var rfl (ev_int ?_))))⟩
    refine ⟨2, rfl, .inl ⟨_, kD (mng (scn t).nm u), .q, rfl, ?_⟩⟩
    cases q : mng (scn t).nm u with
    | inl i => exact ⟨_, _, rfl, kb_is, _, rfl, rfl, rfl, fun q => nomatch q⟩
    | inr s =>
      refine ⟨_, _, rfl, kb_ss, _, rfl, rfl, rfl, fun _ => ev_op (ev_var rfl (ev_int ⟨2, rfl, .inl ⟨_, kD (mng (scn t).nm u), .q, rfl, ?_, rfl⟩⟩))⟩
      rw [q]
  · rw [List.length_map]; exact Nat.le_trans (List.length_filter_le _ _) (szl (by omega))
  rw [strs_eq]
  have hsl : (near.filterMap fun u => strOf (mng (scn t).nm u)).length ≤ 25 := Nat.le_trans (List.length_filterMap_le _ _) hnl
  refine ea_nil ⟨_, rfl, by omega, fun x hx => ?_, ?_⟩
  · obtain ⟨u, hu, e⟩ := List.mem_filterMap.mp hx
    exact free_ok snd x (List.mem_filterMap.mpr ⟨u, hnu u hu, e⟩)
  rw [uniq_uq]
  have hsl2 := uq_len (near.filterMap fun u => strOf (mng (scn t).nm u))
  refine .inr (.inr ⟨_, _, .q, .q, ?_, .inl ?_⟩)
  · simp only [List.length_append, List.length_map, isort_len, srt_len]; exact szl (by omega)
  have hl := live_law snd b
  rw [hN, hO] at hl
  rw [hl, List.map_append, List.map_map, List.map_map] at k
  exact k
def W_law_all_live : Fw := fun ds M P => ∃ (t : Tr) (p : Addr) (X Y : D) (bb : Bool), ds = [.ref p] ∧ TmOk t ∧ M p = some (.dK (pgk (scn t) X Y bb)) ∧ P (dLv (LV (scn t))) M
def N_law_all_live : List Str := ["_law_page_here", "_law_binder"]
def P_law_all_live : List Str := ["_law_page_here"]
theorem sc_law_all_live : FnScope N_law_all_live P_law_all_live (defScope s_law_all_live) := ⟨rfl, rfl, rfl, by decide +kernel, rfl, by decide +kernel, by decide +kernel⟩
theorem h_law_all_live {z : Cz} {mg : Str → Option Value} {base : Heap} {CF CT : Addr} (G : Gf z mg CF CT) (Dd : Df z mg "_law_all_live" s_law_all_live) (H_law_live : Has z mg base "_law_live" P_law_live 3 W_law_live) : Has z mg base "_law_all_live" P_law_all_live (3 + 1) (W_law_all_live) := by
  refine okDf Dd sc_law_all_live (fun _ _ _ _ _ _ us hl => match us, hl with | [_], _ => rfl) (fun ds M P hw => ?_) (fun f cdv A outer s H E hr ds M P hw => ?_)
  · obtain ⟨t, p, X, Y, bb, rfl, _⟩ := hw
    rfl
  obtain ⟨t, p, X, Y, bb, rfl, ht, hp, k⟩ := hw
  refine ⟨_, (pss_one (ps_ret (pe_lc (own := [("_law_binder", 1)]) rfl sc_law_all_live.nd (pi_range1 rfl G.range (pa_cons (pe_callB (zc_len z) rfl G.len boot_len (pa_cons (pe_dget (hu_of hr) (pv 0) pe_str (fun _ _ => rfl)) pa_nil)) pa_nil)) (blkOk_by (N := N_law_all_live) (sc := defScope s_law_all_live) (by decide +kernel)) (fun _ _ _ _ _ => (pg_name (i := 1) sc_law_all_live.nd rfl (.inl rfl))) (fun _ _ _ _ _ => pts_nil) (fun _ _ _ _ _ => (px_call H_law_live (hr.mono (by omega)) rfl (pa_cons (pv 0) (pa_cons (pv 1) pa_nil))))))), ?_⟩
  have h6 := nmN t
  have hb6 := ht.2.2
  refine s_ret ?_
  refine ev_lcA [1] (fun _ h => h) (List.range (scn t).nm.length) (fun b => D.int (b : Nat)) (fun b => .sq true ((live (scn t) b).map kD)) (ei_rng (ea_cons (ev_cb (ea_cons (ev_pg rfl hp pv_names (ea_nil (.inl ⟨_, _, rfl, .q, ?_⟩)))))))
  refine ea_nil ⟨(scn t).nm.length, by rw [List.length_map], by omega, by omega, ?_⟩
  refine ⟨by rw [Int.toNat_natCast, rgD_map], by rw [List.length_range]; exact szl (by omega), trivial, ?_, ?_, .inl ?_⟩
  · intro i b hb
    have hbl : b < (scn t).nm.length := List.mem_range.mp (List.mem_of_getElem? hb)
    exact eg_name ⟨rfl, ev_call (ea_cons (ev_var rfl (ea_cons (ev_var rfl (ea_nil ⟨t, p, X, Y, bb, b, rfl, ht, hp, hbl, rfl, rfl⟩)))))⟩
  · rw [List.length_map, List.length_range]; exact szl (by omega)
  · unfold dLv LV at k
    rw [List.map_map] at k
    exact k
def PgM (M : Mem) (p : Addr) (t : Tr) (X Y : D) (b : Bool) : Prop := M p = some (.dK (pgk (scn t) X Y b))
def pgT (t : Tr) (X Y : D) : MO := .dK (pgk (scn t) X Y true)
def W_law_lives : Fw := fun ds M P => ∃ (t : Tr) (p : Addr) (X Y : D) (b : Bool), ds = [.ref p] ∧ TmOk t ∧ PgM M p t X Y b ∧ P (dLv (LV (scn t))) (mupd M p (pgT t X Y))
def N_law_lives : List Str := ["_law_page_here"]
def P_law_lives : List Str := ["_law_page_here"]
theorem sc_law_lives : FnScope N_law_lives P_law_lives (defScope s_law_lives) := ⟨rfl, rfl, rfl, by decide +kernel, rfl, by decide +kernel, by decide +kernel⟩
theorem h_law_lives {z : Cz} {mg : Str → Option Value} {base : Heap} {CF CT : Addr} (G : Gf z mg CF CT) (Dd : Df z mg "_law_lives" s_law_lives) (H_law_all_live : Has z mg base "_law_all_live" P_law_all_live 4 W_law_all_live) : Has z mg base "_law_lives" P_law_lives (4 + 1) (W_law_lives) := by
  refine okDf Dd sc_law_lives (fun _ _ _ _ _ _ us hl => match us, hl with | [_], _ => rfl) (fun ds M P hw => ?_) (fun f cdv A outer s H E hr ds M P hw => ?_)
  · obtain ⟨t, p, X, Y, b, rfl, _⟩ := hw
    rfl
  obtain ⟨t, p, X, Y, b, rfl, ht, hp, k⟩ := hw
  refine ⟨_, (pss_cons (ps_if (pt_cmp (pc_dnotin (hu_of hr) pe_str (pv 0))) (pss_one (ps_dput (hu_of hr) (pv 0) pe_str (px_call H_law_all_live (hr.mono (by omega)) rfl (pa_cons (pv 0) pa_nil)) rfl)) pss_nil) (pss_one (ps_ret (pe_dget (hu_of hr) (pv 0) pe_str (fun _ _ => rfl))))), ?_⟩
  unfold PgM at hp
  cases b with
  | true =>
    refine s_seq (s_if (et_dnin (ev_str (ev_var rfl ⟨p, _, _, rfl, hp, rfl, ?_⟩))))
    rw [pv_live1]
    refine ⟨(fun q => nomatch q), fun _ => s_next (s_ret (ev_pg rfl hp pv_live1 ?_))⟩
    unfold pgT at k
    rw [mupd_self hp] at k
    exact k
  | false =>
    refine s_seq (s_if (et_dnin (ev_str (ev_var rfl ⟨p, _, _, rfl, hp, rfl, ?_⟩))))
    rw [pv_live0]
    refine ⟨fun _ => ?_, fun q => nomatch q⟩
    refine s_dput (ev_call (ea_cons (ev_var rfl (ea_nil ⟨t, p, X, Y, false, rfl, ht, hp, ?_⟩))))
    refine ev_var rfl (ev_str ⟨p, _, _, rfl, hp, rfl, by simp [pgk, pg0, sizeLine], ?_⟩)
    rw [pg_put]
    exact s_ret (ev_pg rfl mupd_same pv_live1 k)
def W_law_wishers : Fw := fun ds M P => ∃ (t : Tr) (p : Addr) (X Y : D) (b k : Bool) (W : List (Option Str)), ds = [.ref p, dWs k W] ∧ TmOk t ∧ PgM M p t X Y b ∧ W.length = (scn t).nm.length ∧ P (dNat (wishers (LV (scn t)) W)) (mupd M p (pgT t X Y))
def N_law_wishers : List Str := ["_law_page_here", "_law_wishes_here", "_law_live_here", "_law_binder", "_law_wish"]
def P_law_wishers : List Str := ["_law_page_here", "_law_wishes_here"]
theorem sc_law_wishers : FnScope N_law_wishers P_law_wishers (defScope s_law_wishers) := ⟨rfl, rfl, rfl, by decide +kernel, rfl, by decide +kernel, by decide +kernel⟩
theorem h_law_wishers {z : Cz} {mg : Str → Option Value} {base : Heap} {CF CT : Addr} (G : Gf z mg CF CT) (Dd : Df z mg "_law_wishers" s_law_wishers) (H_law_lives : Has z mg base "_law_lives" P_law_lives 5 W_law_lives) : Has z mg base "_law_wishers" P_law_wishers (5 + 1) (W_law_wishers) := by
  refine okDf Dd sc_law_wishers (fun _ _ _ _ _ _ us hl => match us, hl with | [_, _], _ => rfl) (fun ds M P hw => ?_) (fun f cdv A outer s H E hr ds M P hw => ?_)
  · obtain ⟨t, p, X, Y, b, k, W, rfl, _⟩ := hw
    rfl
  obtain ⟨t, p, X, Y, b, kk, W, rfl, ht, hp, hl, k⟩ := hw
  refine ⟨_, (pss_cons (ps_set (i := 2) sc_law_wishers.nd rfl (.inr rfl) (px_call H_law_lives (hr.mono (by omega)) rfl (pa_cons (pv 0) pa_nil))) (pss_one (ps_ret (pe_lc (own := [("_law_binder", 3), ("_law_wish", 4)]) rfl sc_law_wishers.nd (zi_enum z G.enumerate (pa_cons (pv 1) pa_nil)) (blkOk_by (N := N_law_wishers) (sc := defScope s_law_wishers) (by decide +kernel)) (fun _ _ _ _ _ => (zg_tup (n := 2) z (pgs_cons (pg_name (i := 3) sc_law_wishers.nd rfl (.inl rfl)) (pgs_cons (pg_name (i := 4) sc_law_wishers.nd rfl (.inl rfl)) pgs_nil)))) (fun _ _ _ _ _ => (pts_one (PW.pt (pw_and (pt_cmpR ox_notN (pv 4) pe_non (nomark _)) (pw_and1 (pt_cmpR (zo_notIn z) (pv 4) (zx_ix z (pv 2) (pv 3)) (by with_unfolding_all rfl))))))) (fun _ _ _ _ _ => (pv 3)))))), ?_⟩
  have h6 := nmN t
  have hb6 := ht.2.2
  refine s_seq (s_set (ev_call (ea_cons (ev_var rfl (ea_nil ⟨t, p, X, Y, b, rfl, ht, hp, ?_⟩)))))
  refine s_ret (ev_sel (k := kk) (W := W) (fun b s => !decide (Sum.inr s ∈ (LV (scn t)).getD b [])) (by simp) (by simp) (by omega) (ev_var rfl ⟨rfl, rfl⟩) (fun x y => rfl) (fun x y => rfl) (fun b s hb => ?_) ⟨?_, .inl k⟩)
  · have hb' : b < (LV (scn t)).length := by rw [LV_len, ← hl]; exact (List.getElem?_eq_some_iff.mp hb).1
    refine et_test (ev_op (ev_var rfl (ev_op (ev_var rfl (ev_var rfl ⟨_, rfl, .inl ⟨_, _, .q, atI_nat b (lv_at hb'), ?_⟩⟩)))))
    refine ⟨_, .q, rfl, flat_key _, ?_⟩
    have e := inD_key (x := .inr s) (xs := (LV (scn t)).getD b [])
    refine ⟨_, rfl, ?_, rfl⟩
    rw [← e]
    rfl
  · rw [List.length_map]; exact Nat.le_trans (sel_len _ _) (szl (by omega))
end Lv

set_option Elab.async false
set_option linter.all false
set_option maxRecDepth 100000
set_option maxHeartbeats 4000000
set_option pp.maxSteps 400
set_option pp.deepTerms false
namespace Lv
open PySem PySem.Spec PyProof.Rows L2 StX
local macro_rules
  | `(tactic| walk_at "lv1") => `(tactic| with_reducible (first
    | refine s_set ?_ | refine s_ret ?_ | refine s_if ?_ | refine s_drop ?_ | refine s_next ?_ | refine s_par ?_ | refine s_par3 ?_ | refine s_subL ?_ | refine s_unl2 ?_ | refine s_tup2 ?_ | refine eg_unl2 ?_ | refine eg_unl3 ?_ | refine eg_tup2 ?_
    | refine ev_var rfl ?_ | refine ev_int ?_ | refine ev_str ?_ | refine ev_bl ?_ | refine ev_non ?_ | refine ev_ref ?_
    | refine ev_lst0 ?_ | refine ev_eqE ?_ | refine ev_neE ?_ | refine ev_op ?_ | refine ev_un ?_ | refine ev_isiLT ?_ | refine ev_isi ?_ | refine ev_cb ?_ | refine ev_chain ?_ | refine ev_andV ?_ | refine ev_orV ?_ | refine ev_notV ?_ | refine ev_if ?_ | refine ev_tup ?_ | refine ev_call ?_
    | refine et_and ?_ | refine et_or ?_ | refine et_not ?_ | refine et_test ?_ | refine et_b ?_ | refine et_yes ?_
    | refine ea_cons ?_ | refine ea_nil ?_
    | refine g_int2 ?_ | refine g_bl ?_ | refine g_int ?_ | refine g_addI ?_ | refine g_eqI ?_ | refine g_eqSt ?_ | refine g_eqSf (by decide +kernel) ?_ | refine g_eqS ?_ | refine g_eqIS ?_ | refine g_eqSI ?_ | refine g_eqNS ?_ | refine g_isn ?_
    | refine g_par ?_ | refine g_par3 ?_ | refine g_neg ?_
    | refine g_ifT ?_ | refine g_ifNT ?_ | refine g_ifNF ?_ | refine g_ifF ?_ | refine g_ifD ?_ ?_ | refine g_ifDN ?_ ?_
    | refine eg_name ?_ | refine eg_setL ?_))
local macro_rules
  | `(tactic| walk_at "lvM") => `(tactic| first | assumption | exact mupd_same)
local macro_rules
  | `(tactic| walk_at "lvW") => `(tactic| with_unfolding_all rfl)
local macro_rules
  | `(tactic| walk_at "lvA") => `(tactic| first | with_unfolding_all rfl | with_unfolding_all exact atI_nat 0 rfl | with_unfolding_all exact atI_nat 1 rfl)
local macro_rules
  | `(tactic| walk_at "lv2") => `(tactic| with_reducible (first
    | refine ⟨_, _, (by walk_at "lvW"), kb_ii, ?_⟩ | refine ⟨_, _, (by walk_at "lvW"), kb_ib, ?_⟩ | refine ⟨_, _, (by walk_at "lvW"), kb_is, ?_⟩ | refine ⟨_, _, (by walk_at "lvW"), kb_ss, ?_⟩ | refine ⟨_, _, (by walk_at "lvW"), kb_tt, ?_⟩
    | refine .inl ⟨_, _, rfl, IsS.q, ?_⟩ | refine .inl ⟨_, _, rfl, IsS.r (by walk_at "lvM"), ?_⟩ | refine .inl ⟨_, _, rfl, IsS.sc, ?_⟩
    | refine .inl ⟨_, _, IsS.q, (by walk_at "lvA"), ?_⟩ | refine .inl ⟨_, _, IsS.r (by walk_at "lvM"), (by walk_at "lvA"), ?_⟩
    | refine .inl (g_int2 (And.intro (CMul.l (by omega) (by omega)) ?_)) | refine .inl (g_int2 (And.intro (CMul.r (by omega) (by omega)) ?_))
    | refine And.intro (CDiv.mk (by omega) (by omega)) ?_ | refine And.intro (by omega) ?_ | refine And.intro (Nat.le_of_ble_eq_true (by walk_at "lvW")) ?_
    | refine .inl ⟨_, _, rfl, ?_⟩
    | refine .inl ⟨_, rfl, ?_⟩ | refine .inr ⟨_, rfl, ?_⟩
    | refine ⟨_, _, _, _, rfl, (by walk_at "lvM"), rfl, (by walk_at "lvW"), ?_⟩
    | refine ⟨_, _, rfl, IsL.q, ?_⟩
    | refine ⟨_, rfl, .inl ⟨_, _, IsS.q, (by walk_at "lvA"), ?_⟩⟩))
local macro_rules
  | `(tactic| walk_at "lvm") => `(tactic| repeat' (first | walk_at "lv1" | (with_reducible refine s_seq ?_) | walk_at "lv2" | dsimp only))
local macro_rules
  | `(tactic| walk_at "lve") => `(tactic| repeat' (first | walk_at "lv1" | (with_reducible refine ev_lst ?_) | walk_at "lv2" | dsimp only))
local macro_rules
  | `(tactic| walk_at "lv") => `(tactic| repeat' (first | walk_at "lv1" | (with_reducible refine ev_lst ?_) | (with_reducible refine s_seq ?_) | walk_at "lv2" | dsimp only))
local macro_rules
  | `(tactic| walk_at "lve0") => `(tactic| repeat' (first
    | (with_reducible first | refine ev_var rfl ?_ | refine ev_int ?_ | refine ev_str ?_ | refine et_test ?_ | refine ev_eqE ?_ | refine ev_op ?_ | refine g_bl ?_ | refine g_eqI ?_ | refine g_eqSt ?_ | refine g_eqSf (by decide +kernel) ?_ | refine g_eqS ?_ | refine g_int ?_ | refine g_ifT ?_ | refine g_ifF ?_ | refine g_ifD ?_ ?_) | walk_at "lv2" | dsimp only))
local macro_rules
  | `(tactic| walk_at "lvx") => `(tactic| repeat' (first | (refine fun hx => absurd hx ?_; (with_reducible fail_if_success assumption); simp; done) | (refine fun _ => ?_; walk_at "lv")))
theorem pgT_at {M : Mem} {p : Addr} {t : Tr} {X Y : D} : PgM (mupd M p (pgT t X Y)) p t X Y true := mupd_same
theorem pgT_re {M : Mem} {p : Addr} {t : Tr} {X Y : D} (h : PgM M p t X Y true) : mupd M p (pgT t X Y) = M := mupd_self h
def W_law_mates : Fw := fun ds M P => ∃ (t : Tr) (p : Addr) (X Y : D) (bb k : Bool) (W : List (Option Str)) (b : Nat), ds = [.ref p, dWs k W, .int (b : Nat)] ∧ TmOk t ∧ PgM M p t X Y bb ∧ W.length = (scn t).nm.length ∧ b < W.length ∧ P (dNat (matesOf (LV (scn t)) W b (wishers (LV (scn t)) W))) (mupd M p (pgT t X Y))
def N_law_mates : List Str := ["_law_page_here", "_law_wishes_here", "_law_binder", "_law_some", "_law_one_here"]
def P_law_mates : List Str := ["_law_page_here", "_law_wishes_here", "_law_binder"]
theorem sc_law_mates : FnScope N_law_mates P_law_mates (defScope s_law_mates) := ⟨rfl, rfl, rfl, by decide +kernel, rfl, by decide +kernel, by decide +kernel⟩
theorem h_law_mates {z : Cz} {mg : Str → Option Value} {base : Heap} {CF CT : Addr} (G : Gf z mg CF CT) (Dd : Df z mg "_law_mates" s_law_mates) (H_law_lives : Has z mg base "_law_lives" P_law_lives 5 W_law_lives) (H_law_wishers : Has z mg base "_law_wishers" P_law_wishers 6 W_law_wishers) : Has z mg base "_law_mates" P_law_mates (6 + 1) (W_law_mates) := by
  refine okDf Dd sc_law_mates (fun _ _ _ _ _ _ us hl => match us, hl with | [_, _, _], _ => rfl) (fun ds M P hw => ?_) (fun f cdv A outer s H E hr ds M P hw => ?_)
  · obtain ⟨t, p, X, Y, bb, k, W, b, rfl, _⟩ := hw
    rfl
  obtain ⟨t, p, X, Y, bb, kk, W, b, rfl, ht, hp, hl, hb, k⟩ := hw
  refine ⟨_, (pss_cons (ps_setLc (i := 3) (own := [("_law_one_here", 4)]) rfl sc_law_mates.nd rfl rfl (sw_true rfl rfl rfl (by decide +kernel)) (zi_seq z (px_call H_law_wishers (hr.mono (by omega)) rfl (pa_cons (pv 0) (pa_cons (pv 1) pa_nil)))) (blkOk_by (N := N_law_mates) (sc := defScope s_law_mates) (by decide +kernel)) (fun _ _ _ _ _ => (pg_name (i := 4) sc_law_mates.nd rfl (.inl rfl))) (fun _ _ _ _ _ => (pts_one (PW.pt (pw_and (pt_cmpR (zo_ne z hr) (pv 4) (pv 2) (nomark _)) (pw_and1 (pt_cmpR (zo_eq z hr) (zx_ix z (pv 1) (pv 4)) (zx_ix z (pv 1) (pv 2)) (nomark _))))))) (fun _ _ _ _ _ => (pv 4))) (pss_one (ps_ret (pe_lc (own := [("_law_one_here", 4)]) rfl sc_law_mates.nd (zi_seq z (pv 3)) (blkOk_by (N := N_law_mates) (sc := defScope s_law_mates) (by decide +kernel)) (fun _ _ _ _ _ => (pg_name (i := 4) sc_law_mates.nd rfl (.inl rfl))) (fun _ _ _ _ _ => (pts_one (pt_cmpR (zo_in z) (pv 2) (zx_ix z (px_call H_law_lives (hr.mono (by omega)) rfl (pa_cons (pv 0) pa_nil)) (pv 4)) (by with_unfolding_all rfl)))) (fun _ _ _ _ _ => (pv 4)))))), ?_⟩
  have h6 := nmN t
  have hb6 := ht.2.2
  generalize hlv : LV (scn t) = lv at k
  have hlvl : lv.length = W.length := by rw [← hlv, LV_len, hl]
  have hws : (wishers lv W).length ≤ 100 := Nat.le_trans (sel_len _ _) (by omega)
  refine s_seq (s_set ?_)
  refine ev_lcX [4] (fun _ h => h) (wishers lv W) (fun c => D.int (c : Nat)) (fun c => decide (c ≠ b) && decide (W.getD c none = W.getD b none)) (fun c => D.int (c : Nat)) (ei_seq (ev_call (ea_cons (ev_var rfl (ea_cons (ev_var rfl (ea_nil ⟨t, p, X, Y, bb, kk, W, rfl, ht, hp, hl, ?_⟩)))))))
  rw [hlv]
  refine ⟨_, .q, rfl, szl (by omega), .q, ?_, ?_, .inl ?_⟩
  · intro i c hc
    have hcm := wishers_lt (List.mem_of_getElem? hc)
    refine eg_name ⟨rfl, et_and (et_test (ev_op (ev_var rfl (ev_var rfl (g_eqI ⟨_, rfl, fun h1 => ?_, fun h1 => ?_⟩)))))⟩
    · have h1' : c ≠ b := by intro q; subst q; simp at h1
      refine et_test (ev_op (ev_op (ev_var rfl (ev_var rfl ⟨_, rfl, .inl ⟨_, _, .q, atI_nat c (W_at (k := kk) hcm), ?_⟩⟩))))
      refine ev_op (ev_var rfl (ev_var rfl ⟨_, rfl, .inl ⟨_, _, .q, atI_nat b (W_at (k := kk) hb), ?_⟩⟩))
      refine ⟨_, dW_eq _ _, _, rfl, ?_, rfl, fun _ => ev_var rfl ⟨rfl, rfl⟩⟩
      rw [decide_eq_true h1', Bool.true_and]
    · have h1' : c = b := by
        have : ¬ ((c : Int) ≠ (b : Int)) := by intro q; rw [decide_eq_false q] at h1; simp at h1
        omega
      refine ⟨?_, rfl, fun q => nomatch q⟩
      rw [h1']; simp
  · rw [List.length_map]; exact Nat.le_trans (List.length_filter_le _ _) (szl (by omega))
  generalize hsm : ((wishers lv W).filter fun c => decide (c ≠ b) && decide (W.getD c none = W.getD b none)) = sm
  have hsl : sm.length ≤ 100 := by rw [← hsm]; exact Nat.le_trans (List.length_filter_le _ _) hws
  refine s_ret (ev_lcX [4] (fun _ h => h) sm (fun c => D.int (c : Nat)) (fun c => decide (Sum.inl (b : Int) ∈ lv.getD c [])) (fun c => D.int (c : Nat)) (ei_seq (ev_var rfl ⟨_, .q, rfl, szl (by omega), .q, ?_, ?_, .inl ?_⟩)))
  · intro i c hc
    have hcm : c < W.length := wishers_lt (lv := lv) (by
      have := List.mem_of_getElem? hc
      rw [← hsm] at this
      exact (List.mem_filter.mp this).1)
    refine eg_name ⟨rfl, et_test (ev_op (ev_var rfl (ev_op (ev_call (ea_cons (ev_var rfl (ea_nil ⟨t, p, X, Y, true, rfl, ht, pgT_at, ?_⟩)))))))⟩
    rw [pgT_re pgT_at, hlv]
    refine ev_var rfl ⟨_, rfl, .inl ⟨_, _, .q, atI_nat c (lv_at (by omega)), ?_⟩⟩
    refine ⟨_, .q, rfl, flat_key _, ?_⟩
    have e := inD_key (x := .inl (b : Int)) (xs := lv.getD c [])
    refine ⟨_, rfl, ?_, rfl, fun _ => ev_var rfl ⟨rfl, rfl⟩⟩
    rw [← e]
    rfl
  · rw [List.length_map]; exact Nat.le_trans (List.length_filter_le _ _) (szl (by omega))
  · have e : sm.filter (fun c => decide (Sum.inl (b : Int) ∈ lv.getD c [])) = matesOf lv W b (wishers lv W) := by
      rw [← hsm, List.filter_filter]
      unfold matesOf
      apply List.filter_congr
      intro c _
      cases decide (c ≠ b) <;> cases decide (W.getD c none = W.getD b none) <;> cases decide (Sum.inl (b : Int) ∈ lv.getD c []) <;> rfl
    rw [e]
    exact k
def W_law_told_prices : Fw := fun ds M P => ∃ (t : Tr) (p : Addr) (X Y : D) (bb k k' : Bool) (W : List (Option Str)) (V : List Int), ds = [.ref p, dWs k W, dVs k' V] ∧ TmOk t ∧ PgM M p t X Y bb ∧ W.length = (scn t).nm.length ∧ V.length = W.length ∧ P (.sq true ((prices (LV (scn t)) W V).map D.int)) (mupd M p (pgT t X Y))
def N_law_told_prices : List Str := ["_law_page_here", "_law_wishes_here", "_law_weights_here", "_law_found", "_law_binder", "_law_rest", "_law_one_here"]
def P_law_told_prices : List Str := ["_law_page_here", "_law_wishes_here", "_law_weights_here"]
theorem sc_law_told_prices : FnScope N_law_told_prices P_law_told_prices (defScope s_law_told_prices) := ⟨rfl, rfl, rfl, by decide +kernel, rfl, by decide +kernel, by decide +kernel⟩
theorem h_law_told_prices {z : Cz} {mg : Str → Option Value} {base : Heap} {CF CT : Addr} (G : Gf z mg CF CT) (Dd : Df z mg "_law_told_prices" s_law_told_prices) (H_law_wishers : Has z mg base "_law_wishers" P_law_wishers 6 W_law_wishers) (H_law_mates : Has z mg base "_law_mates" P_law_mates 7 W_law_mates) : Has z mg base "_law_told_prices" P_law_told_prices (7 + 1) (W_law_told_prices) := by
  refine okDf Dd sc_law_told_prices (fun _ _ _ _ _ _ us hl => match us, hl with | [_, _, _], _ => rfl) (fun ds M P hw => ?_) (fun f cdv A outer s H E hr ds M P hw => ?_)
  · obtain ⟨t, p, X, Y, bb, k, k', W, V, rfl, _⟩ := hw
    rfl
  obtain ⟨t, p, X, Y, bb, kk, k', W, V, rfl, ht, hp, hl, hv, k⟩ := hw
  refine ⟨_, (pss_cons (ps_set (i := 3) sc_law_told_prices.nd rfl (.inr rfl) (pe_op ox_mul (pe_lst (pa_cons pe_int pa_nil)) (pe_callB (zc_len z) rfl G.len boot_len (pa_cons (pv 1) pa_nil)))) (pss_cons (ps_for PassesOwn.never rfl (zi_seq z (zx_rev z (px_call H_law_wishers (hr.mono (by omega)) rfl (pa_cons (pv 0) (pa_cons (pv 1) pa_nil))))) (pg_name (i := 4) sc_law_told_prices.nd rfl (.inl rfl)) (pss_cons (ps_set (i := 5) sc_law_told_prices.nd rfl (.inl rfl) (pe_callB (zc_sum z) rfl G.sum boot_sum (pa_cons (pe_lc (own := [("_law_one_here", 6)]) rfl sc_law_told_prices.nd (zi_seq z (px_call H_law_mates (hr.mono (by omega)) rfl (pa_cons (pv 0) (pa_cons (pv 1) (pa_cons (pv 4) pa_nil))))) (blkOk_by (N := N_law_told_prices) (sc := defScope s_law_told_prices) (by decide +kernel)) (fun _ _ _ _ _ => (pg_name (i := 6) sc_law_told_prices.nd rfl (.inl rfl))) (fun _ _ _ _ _ => pts_nil) (fun _ _ _ _ _ => (pe_callTy (cx_int) rfl G.int boot_int (pa_cons (zx_ix z (pv 3) (pv 6)) pa_nil)))) pa_nil))) (pss_one (ps_asg (pe_callB (zc_max z) rfl G.max boot_max (pa_cons pe_int (pa_cons (pe_op ox_sub (pe_callTy (cx_int) rfl G.int boot_int (pa_cons (zx_ix z (pv 2) (pv 4)) pa_nil)) (pe_callTy (cx_int) rfl G.int boot_int (pa_cons (pv 5) pa_nil))) pa_nil))) (pg_sub (pv 3) (pv 4) set_list))))) (pss_one (ps_ret (pv 3))))), ?_⟩
  have h6 := nmN t
  have hb6 := ht.2.2
  generalize hlv : LV (scn t) = lv at k
  have hlvl : lv.length = W.length := by rw [← hlv, LV_len, hl]
  have hws : (wishers lv W).length ≤ 100 := Nat.le_trans (sel_len _ _) (by omega)
  refine s_seq (s_set (ev_op (ev_lst (ea_cons (ev_int (ea_nil ⟨by simp [sizeLine], ev_cb (ea_cons (ev_var rfl (ea_nil (.inl ⟨_, _, rfl, .q, ?_⟩))))⟩))))))
  have e0 : (List.replicate ((W.map dW).length : Int).toNat [D.int 0]).flatten = (V.map fun _ => (0 : Int)).map D.int := by
    rw [Int.toNat_natCast, List.length_map, ← hv, List.map_map]
    clear k hv
    induction V with
    | nil => rfl
    | cons v V ih => rw [List.length_cons, List.replicate_succ, List.flatten_cons, ih]; rfl
  refine .inr ⟨_, _, .q, rfl, by rw [List.length_map]; omega, by rw [List.length_map]; omega, ?_, ?_, .inr fun q hq => ?_⟩
  · rw [Int.toNat_natCast, List.length_map]; exact szl (by simp; omega)
  · rw [e0, List.length_map, List.length_map]; exact szl (by omega)
  rw [e0]
  have hpq : p ≠ q := fun e => by subst e; rw [show M p = _ from hp] at hq; cases hq
  have hpg : PgM (mupd M q (.lst ((V.map fun _ => (0 : Int)).map D.int))) p t X Y bb := by unfold PgM; rw [mupd_ne hpq]; exact hp
  refine s_seq (s_for (js := [4]) (ei_seq (ev_rev (ev_call (ea_cons (ev_var rfl (ea_cons (ev_var rfl (ea_nil ⟨t, p, X, Y, bb, kk, W, rfl, ht, hpg, hl, ?_⟩)))))))))
  rw [hlv]
  refine ⟨_, .q, by rw [List.length_reverse, List.length_map]; exact szl (by omega), .inl ?_⟩
  refine ⟨_, .q, fun i γ m => ∃ c4 c5 c6, γ = [some (.ref p), some (dWs kk W), some (dVs k' V), some (.ref q), c4, c5, c6] ∧ m = mupd (mupd M p (pgT t X Y)) q (.lst ((((wishers lv W).reverse.take i).foldl (priceStep lv W V) (V.map fun _ => 0)).map D.int)), ⟨_, _, _, rfl, by rw [mupd_comm hpq.symm]; rfl⟩, fun _ _ _ _ _ => .q, ?_, ?_⟩
  · rintro i x γ m hx ⟨c4, c5, c6, rfl, rfl⟩
    rw [← List.map_reverse, List.getElem?_map] at hx
    cases qb : (wishers lv W).reverse[i]? with
    | none => rw [qb] at hx; cases hx
    | some b =>
      rw [qb] at hx
      cases hx
      have hbw : b ∈ wishers lv W := List.mem_reverse.mp (List.mem_of_getElem? qb)
      have hb := wishers_lt hbw
      have hpl : (((wishers lv W).reverse.take i).foldl (priceStep lv W V) (V.map fun _ => 0)).length = V.length := by
        have : ∀ (bs : List Nat) (p : List Int), (bs.foldl (priceStep lv W V) p).length = p.length := by
          intro bs
          induction bs with
          | nil => intro p; rfl
          | cons b bs ih => intro p; rw [List.foldl_cons, ih, priceStep_len]
        rw [this, List.length_map]
      have hst := foldl_take_succ (f := priceStep lv W V) (b := V.map fun _ => 0) qb
      generalize hpp : ((wishers lv W).reverse.take i).foldl (priceStep lv W V) (V.map fun _ => 0) = pp at hpl hst ⊢
      have hpg2 : PgM (mupd (mupd M p (pgT t X Y)) q (.lst (pp.map D.int))) p t X Y true := by unfold PgM; rw [mupd_ne hpq]; exact mupd_same
      refine eg_name (s_seq (s_set (ev_cb (ea_cons ?_))))
      have hms : ∀ c ∈ matesOf lv W b (wishers lv W), c < V.length := fun c hc => by rw [hv]; exact wishers_lt (List.mem_filter.mp hc).1
      have hml : (matesOf lv W b (wishers lv W)).length ≤ 100 := Nat.le_trans (List.length_filter_le _ _) hws
      refine ev_lcA [6] (fun _ h => h) (matesOf lv W b (wishers lv W)) (fun c => D.int (c : Nat)) (fun c => D.int (pp.getD c 0)) (ei_seq (ev_call (ea_cons (ev_var rfl (ea_cons (ev_var rfl (ea_cons (ev_var rfl (ea_nil ⟨t, p, X, Y, true, kk, W, b, rfl, ht, hpg2, hl, hb, ?_⟩)))))))))
      rw [pgT_re hpg2, hlv]
      refine ⟨_, .q, rfl, szl (by omega), .q, ?_, ?_, .inl ?_⟩
      · intro j c hc
        have hc2 := hms c (List.mem_of_getElem? hc)
        refine eg_name ⟨rfl, ev_cb (ea_cons (ev_op (ev_var rfl (ev_var rfl ⟨_, rfl, .inl ⟨_, _, .r mupd_same, atI_nat c (int_at (by rw [hpl]; exact hc2)), ea_nil (.inl ⟨_, rfl, rfl, rfl⟩)⟩⟩))))⟩
      · rw [List.length_map]; exact szl (by omega)
      refine ea_nil ⟨_, (matesOf lv W b (wishers lv W)).map fun c => pp.getD c 0, rfl, .inl (by rw [List.map_map]; rfl), ?_⟩
      refine s_subL (ev_cb (ea_cons (ev_int (ea_cons (ev_op (ev_cb (ea_cons (ev_op (ev_var rfl (ev_var rfl ⟨_, rfl, .inl ⟨_, _, .q, atI_nat b (int_at (by omega)), ?_⟩⟩))))))))))
      refine ea_nil (.inl ⟨_, rfl, ev_cb (ea_cons (ev_var rfl (ea_nil (.inl ⟨_, rfl, _, _, rfl, rfl, ea_nil (.inl ⟨_, _, rfl, ?_⟩)⟩))))⟩)
      refine ev_var rfl (ev_var rfl ⟨q, _, _, b, rfl, mupd_same, rfl, ?_, ?_⟩)
      · unfold ixN
        rw [if_pos (by omega), if_pos (by rw [List.length_map, hpl, hv]; omega)]
        simp
      · refine ⟨_, _, _, rfl, ?_⟩
        rw [mupd_mupd, hst]
        unfold priceStep
        have em : ∀ a b : Int, (if b > a then b else a) = max a b := fun a b => by split <;> omega
        rw [em, List.map_set]
  · rintro γ m ⟨c4, c5, c6, rfl, rfl⟩
    have hl2 : ((wishers lv W).map fun i => D.int (i : Nat)).reverse.length = (wishers lv W).reverse.length := by simp
    rw [hl2, List.take_length]
    refine EVS.freeze 3 rfl mupd_same ?_ ?_
    · rw [List.length_map]
      show (prices lv W V).length ≤ _
      rw [prices_len]; exact szl (by omega)
    rw [mdel_mupd (by rw [mupd_ne hpq.symm]; exact hq)]
    exact s_ret (ev_var rfl k)
def W_law_kept_ones : Fw := fun ds M P => ∃ (t : Tr) (p : Addr) (X Y : D) (bb k k' : Bool) (W : List (Option Str)) (V : List Int), ds = [.ref p, dWs k W, dVs k' V] ∧ TmOk t ∧ PgM M p t X Y bb ∧ W.length = (scn t).nm.length ∧ V.length = W.length ∧ P (dNat (kept (LV (scn t)) W V)) (mupd M p (pgT t X Y))
def N_law_kept_ones : List Str := ["_law_page_here", "_law_wishes_here", "_law_weights_here", "_law_prices", "_law_found", "_law_binder", "_law_live_here", "_law_near", "_law_one_here"]
def P_law_kept_ones : List Str := ["_law_page_here", "_law_wishes_here", "_law_weights_here"]
theorem sc_law_kept_ones : FnScope N_law_kept_ones P_law_kept_ones (defScope s_law_kept_ones) := ⟨rfl, rfl, rfl, by decide +kernel, rfl, by decide +kernel, by decide +kernel⟩
theorem h_law_kept_ones {z : Cz} {mg : Str → Option Value} {base : Heap} {CF CT : Addr} (G : Gf z mg CF CT) (Dd : Df z mg "_law_kept_ones" s_law_kept_ones) (H_law_lives : Has z mg base "_law_lives" P_law_lives 5 W_law_lives) (H_law_wishers : Has z mg base "_law_wishers" P_law_wishers 6 W_law_wishers) (H_law_told_prices : Has z mg base "_law_told_prices" P_law_told_prices 8 W_law_told_prices) : Has z mg base "_law_kept_ones" P_law_kept_ones (8 + 1) (W_law_kept_ones) := by
  refine okDf Dd sc_law_kept_ones (fun _ _ _ _ _ _ us hl => match us, hl with | [_, _, _], _ => rfl) (fun ds M P hw => ?_) (fun f cdv A outer s H E hr ds M P hw => ?_)
  · obtain ⟨t, p, X, Y, bb, k, k', W, V, rfl, _⟩ := hw
    rfl
  obtain ⟨t, p, X, Y, bb, kk, k', W, V, rfl, ht, hp, hl, hv, k⟩ := hw
  refine ⟨_, (pss_cons (ps_par (i := 3) (j := 4) rfl sc_law_kept_ones.nd rfl rfl (by decide) rfl rfl (pa_cons (px_call H_law_told_prices (hr.mono (by omega)) rfl (pa_cons (pv 0) (pa_cons (pv 1) (pa_cons (pv 2) pa_nil)))) (pa_cons (pe_lst pa_nil) pa_nil)) (by rfl)) (pss_cons (ps_for PassesOwn.never rfl (zi_seq z (px_call H_law_wishers (hr.mono (by omega)) rfl (pa_cons (pv 0) (pa_cons (pv 1) pa_nil)))) (pg_name (i := 5) sc_law_kept_ones.nd rfl (.inr rfl)) (pss_cons (ps_set (i := 6) sc_law_kept_ones.nd rfl (.inr rfl) (zx_ix z (px_call H_law_lives (hr.mono (by omega)) rfl (pa_cons (pv 0) pa_nil)) (pv 5))) (pss_cons (ps_setLc (i := 7) (own := [("_law_one_here", 8)]) rfl sc_law_kept_ones.nd rfl rfl (sw_true rfl rfl rfl (by decide +kernel)) (zi_seq z (pv 4)) (blkOk_by (N := N_law_kept_ones) (sc := defScope s_law_kept_ones) (by decide +kernel)) (fun _ _ _ _ _ => (pg_name (i := 8) sc_law_kept_ones.nd rfl (.inl rfl))) (fun _ _ _ _ _ => (pts_one (PW.pt (pw_and (pt_cmpR (zo_eq z hr) (zx_ix z (pv 1) (pv 8)) (zx_ix z (pv 1) (pv 5)) (nomark _)) (pw_and1 (pt_cmpR (zo_in z) (pv 8) (pv 6) (by with_unfolding_all rfl))))))) (fun _ _ _ _ _ => (pv 8))) (pss_one (ps_if (PW.pt (pw_and (pt_cmpR ox_gt (zx_ix z (pv 3) (pv 5)) pe_int (nomark _)) (pw_and1 (pt_cmpR (zo_eq z hr) (pv 7) (pe_lst pa_nil) (nomark _))))) (pss_one (ps_expr (zx_bm z PySem.F.plainAttrs_list PySem.F.slot_list_append PySem.F.type_list_append xm_append (pv 4) (pa_cons (pv 5) pa_nil)))) pss_nil))))) (pss_one (ps_ret (pv 4))))), ?_⟩
  have h6 := nmN t
  have hb6 := ht.2.2
  generalize hlv : LV (scn t) = lv at k
  have hlvl : lv.length = W.length := by rw [← hlv, LV_len, hl]
  have hws : (wishers lv W).length ≤ 100 := Nat.le_trans (sel_len _ _) (by omega)
  refine s_seq (s_par (ea_cons (ev_call (ea_cons (ev_var rfl (ea_cons (ev_var rfl (ea_cons (ev_var rfl (ea_nil ⟨t, p, X, Y, bb, kk, k', W, V, rfl, ht, hp, hl, hv, ?_⟩))))))))))
  rw [hlv]
  generalize hM1 : mupd M p (pgT t X Y) = M1 at k
  have hp1 : PgM M1 p t X Y true := by rw [← hM1]; exact pgT_at
  refine ea_cons (ev_lst0 fun q hq => ea_nil ⟨_, _, rfl, ?_⟩)
  have hpq : p ≠ q := fun e => by subst e; rw [show M1 p = _ from hp1] at hq; cases hq
  have hpg : ∀ l : List D, PgM (mupd M1 q (.lst l)) p t X Y true := fun l => by unfold PgM; rw [mupd_ne hpq]; exact hp1
  refine s_seq (s_for (js := [5]) (ei_seq (ev_call (ea_cons (ev_var rfl (ea_cons (ev_var rfl (ea_nil ⟨t, p, X, Y, true, kk, W, rfl, ht, hpg _, hl, ?_⟩))))))))
  rw [pgT_re (hpg _), hlv]
  refine ⟨_, .q, fun i γ m => ∃ c5 c6 c7 c8, γ = [some (.ref p), some (dWs kk W), some (dVs k' V), some (.sq true ((prices lv W V).map D.int)), some (.ref q), c5, c6, c7, c8] ∧ m = mupd M1 q (.lst ((((wishers lv W).take i).foldl (keepStep lv W (prices lv W V)) []).map fun c => D.int (c : Nat))), ⟨_, _, _, _, rfl, rfl⟩, fun _ _ _ _ _ => .q, ?_, ?_⟩
  · rintro i x γ m hx ⟨c5, c6, c7, c8, rfl, rfl⟩
    rw [List.getElem?_map] at hx
    cases qb : (wishers lv W)[i]? with
    | none => rw [qb] at hx; cases hx
    | some b =>
      rw [qb] at hx
      cases hx
      have hbw : b ∈ wishers lv W := List.mem_of_getElem? qb
      have hb := wishers_lt hbw
      have hfs : ∀ c ∈ ((wishers lv W).take i).foldl (keepStep lv W (prices lv W V)) [], c < W.length := fun c hc => by
        rcases kept_sub _ _ c hc with h | h
        · cases h
        · exact wishers_lt (List.mem_of_mem_take h)
      have hfl : (((wishers lv W).take i).foldl (keepStep lv W (prices lv W V)) []).length ≤ 100 := by
        have := kept_leng (lv := lv) (W := W) (p := prices lv W V) ((wishers lv W).take i) []
        rw [List.length_take] at this
        simp at this
        omega
      have hst := foldl_take_succ (f := keepStep lv W (prices lv W V)) (b := []) qb
      generalize hff : ((wishers lv W).take i).foldl (keepStep lv W (prices lv W V)) [] = ff at hfs hfl hst ⊢
      refine eg_name (s_seq (s_set (ev_op (ev_call (ea_cons (ev_var rfl (ea_nil ⟨t, p, X, Y, true, rfl, ht, hpg _, ?_⟩)))))))
      rw [pgT_re (hpg _), hlv]
      refine ev_var rfl ⟨_, rfl, .inl ⟨_, _, .q, atI_nat b (lv_at (by omega)), ?_⟩⟩
      refine s_seq (s_set ?_)
      refine ev_lcX [8] (fun _ h => h) ff (fun c => D.int (c : Nat)) (fun c => decide (W.getD c none = W.getD b none) && decide (Sum.inl (c : Int) ∈ lv.getD b [])) (fun c => D.int (c : Nat)) (ei_seq (ev_var rfl ⟨_, .r mupd_same, rfl, szl (by omega), .r mupd_same, ?_, ?_, .inl ?_⟩))
      · intro j c hc
        have hcm := hfs c (List.mem_of_getElem? hc)
        refine eg_name ⟨rfl, et_and (et_test (ev_op (ev_op (ev_var rfl (ev_var rfl ⟨_, rfl, .inl ⟨_, _, .q, atI_nat c (W_at (k := kk) hcm), ?_⟩⟩)))))⟩
        refine ev_op (ev_var rfl (ev_var rfl ⟨_, rfl, .inl ⟨_, _, .q, atI_nat b (W_at (k := kk) hb), ?_⟩⟩))
        refine ⟨_, dW_eq _ _, _, rfl, fun h2 => ?_, fun h2 => ?_⟩
        · refine et_test (ev_op (ev_var rfl (ev_var rfl ⟨_, .q, rfl, flat_key _, ?_⟩)))
          have e := inD_key (x := .inl (c : Int)) (xs := lv.getD b [])
          refine ⟨_, rfl, ?_, rfl, fun _ => ev_var rfl ⟨rfl, rfl⟩⟩
          rw [h2, Bool.true_and, ← e]
          rfl
        · refine ⟨?_, rfl, fun q => nomatch q⟩
          rw [h2, Bool.false_and]
      · rw [List.length_map]; exact Nat.le_trans (List.length_filter_le _ _) (szl (by omega))
      have ehu : (ff.filter fun c => decide (W.getD c none = W.getD b none) && decide (Sum.inl (c : Int) ∈ lv.getD b [])) = hurt lv W ff b := rfl
      rw [ehu]
      have hpb : b < (prices lv W V).length := by rw [prices_len]; omega
      refine s_if (et_and (et_test (ev_op (ev_op (ev_var rfl (ev_var rfl ⟨_, rfl, .inl ⟨_, _, .q, atI_nat b (int_at hpb), ?_⟩⟩))))))
      refine ev_int ⟨_, _, rfl, rfl, _, rfl, fun h1 => ?_, fun h1 => ?_⟩
      · have h1' := of_decide_eq_true h1
        refine et_test (ev_eqE (ev_var rfl ⟨_, rfl, ⟨0, by decide, fun x hx => ?_⟩, _, rfl, fun h2 => ?_, fun h2 => ?_⟩))
        · obtain ⟨y, _, rfl⟩ := List.mem_map.mp hx
          exact Da.int
        · have h2' : (hurt lv W ff b).isEmpty = true := by rw [List.isEmpty_map] at h2; exact h2
          refine s_drop (ev_bm (ev_var rfl ⟨⟨_, .inl ⟨q, rfl, mupd_same⟩⟩, ea_cons (ev_var rfl (ea_nil ⟨q, _, rfl, mupd_same, _, rfl, by rw [List.length_map]; simp only [sizeLine]; omega, ?_⟩))⟩))
          refine ⟨_, _, _, _, rfl, ?_⟩
          rw [mupd_mupd, hst]
          unfold keepStep
          rw [if_pos ⟨h1', h2'⟩, List.map_append]
          rfl
        · have h2' : (hurt lv W ff b).isEmpty = false := by rw [List.isEmpty_map] at h2; exact h2
          refine s_next ⟨_, _, _, _, rfl, ?_⟩
          rw [hst]
          unfold keepStep
          rw [if_neg (by rw [h2']; simp)]
      · have h1' := of_decide_eq_false h1
        refine ⟨(fun q => nomatch q), fun _ => s_next ⟨_, _, _, _, rfl, ?_⟩⟩
        rw [hst]
        unfold keepStep
        rw [if_neg (fun q => h1' q.1)]
  · rintro γ m ⟨c5, c6, c7, c8, rfl, rfl⟩
    rw [List.length_map, List.take_length]
    refine EVS.freeze 4 rfl mupd_same ?_ ?_
    · rw [List.length_map]
      refine Nat.le_trans (kept_leng _ _) (szl (by simp; omega))
    rw [mdel_mupd hq]
    exact s_ret (ev_var rfl k)
end Lv

set_option Elab.async false
set_option linter.all false
set_option maxRecDepth 100000
set_option maxHeartbeats 4000000
set_option pp.maxSteps 400
set_option pp.deepTerms false
namespace Lv
open PySem PySem.Spec PyProof.Rows L2 StX
local macro_rules
  | `(tactic| walk_at "lv1") => `(tactic| with_reducible (first
    | refine s_set ?_ | refine s_ret ?_ | refine s_if ?_ | refine s_drop ?_ | refine s_next ?_ | refine s_par ?_ | refine s_par3 ?_ | refine s_subL ?_ | refine s_unl2 ?_ | refine s_tup2 ?_ | refine eg_unl2 ?_ | refine eg_unl3 ?_ | refine eg_tup2 ?_
    | refine ev_var rfl ?_ | refine ev_int ?_ | refine ev_str ?_ | refine ev_bl ?_ | refine ev_non ?_ | refine ev_ref ?_
    | refine ev_lst0 ?_ | refine ev_eqE ?_ | refine ev_neE ?_ | refine ev_op ?_ | refine ev_un ?_ | refine ev_isiLT ?_ | refine ev_isi ?_ | refine ev_cb ?_ | refine ev_chain ?_ | refine ev_andV ?_ | refine ev_orV ?_ | refine ev_notV ?_ | refine ev_if ?_ | refine ev_tup ?_ | refine ev_call ?_
    | refine et_and ?_ | refine et_or ?_ | refine et_not ?_ | refine et_test ?_ | refine et_b ?_ | refine et_yes ?_
    | refine ea_cons ?_ | refine ea_nil ?_
    | refine g_int2 ?_ | refine g_bl ?_ | refine g_int ?_ | refine g_addI ?_ | refine g_eqI ?_ | refine g_eqSt ?_ | refine g_eqSf (by decide +kernel) ?_ | refine g_eqS ?_ | refine g_eqIS ?_ | refine g_eqSI ?_ | refine g_eqNS ?_ | refine g_isn ?_
    | refine g_par ?_ | refine g_par3 ?_ | refine g_neg ?_
    | refine g_ifT ?_ | refine g_ifNT ?_ | refine g_ifNF ?_ | refine g_ifF ?_ | refine g_ifD ?_ ?_ | refine g_ifDN ?_ ?_
    | refine eg_name ?_ | refine eg_setL ?_))
local macro_rules
  | `(tactic| walk_at "lvM") => `(tactic| first | assumption | exact mupd_same)
local macro_rules
  | `(tactic| walk_at "lvW") => `(tactic| with_unfolding_all rfl)
local macro_rules
  | `(tactic| walk_at "lvA") => `(tactic| first | with_unfolding_all rfl | with_unfolding_all exact atI_nat 0 rfl | with_unfolding_all exact atI_nat 1 rfl)
local macro_rules
  | `(tactic| walk_at "lv2") => `(tactic| with_reducible (first
    | refine ⟨_, _, (by walk_at "lvW"), kb_ii, ?_⟩ | refine ⟨_, _, (by walk_at "lvW"), kb_ib, ?_⟩ | refine ⟨_, _, (by walk_at "lvW"), kb_is, ?_⟩ | refine ⟨_, _, (by walk_at "lvW"), kb_ss, ?_⟩ | refine ⟨_, _, (by walk_at "lvW"), kb_tt, ?_⟩
    | refine .inl ⟨_, _, rfl, IsS.q, ?_⟩ | refine .inl ⟨_, _, rfl, IsS.r (by walk_at "lvM"), ?_⟩ | refine .inl ⟨_, _, rfl, IsS.sc, ?_⟩
    | refine .inl ⟨_, _, IsS.q, (by walk_at "lvA"), ?_⟩ | refine .inl ⟨_, _, IsS.r (by walk_at "lvM"), (by walk_at "lvA"), ?_⟩
    | refine .inl (g_int2 (And.intro (CMul.l (by omega) (by omega)) ?_)) | refine .inl (g_int2 (And.intro (CMul.r (by omega) (by omega)) ?_))
    | refine And.intro (CDiv.mk (by omega) (by omega)) ?_ | refine And.intro (by omega) ?_ | refine And.intro (Nat.le_of_ble_eq_true (by walk_at "lvW")) ?_
    | refine .inl ⟨_, _, rfl, ?_⟩
    | refine .inl ⟨_, rfl, ?_⟩ | refine .inr ⟨_, rfl, ?_⟩
    | refine ⟨_, _, _, _, rfl, (by walk_at "lvM"), rfl, (by walk_at "lvW"), ?_⟩
    | refine ⟨_, _, rfl, IsL.q, ?_⟩
    | refine ⟨_, rfl, .inl ⟨_, _, IsS.q, (by walk_at "lvA"), ?_⟩⟩))
local macro_rules
  | `(tactic| walk_at "lvm") => `(tactic| repeat' (first | walk_at "lv1" | (with_reducible refine s_seq ?_) | walk_at "lv2" | dsimp only))
local macro_rules
  | `(tactic| walk_at "lve") => `(tactic| repeat' (first | walk_at "lv1" | (with_reducible refine ev_lst ?_) | walk_at "lv2" | dsimp only))
local macro_rules
  | `(tactic| walk_at "lv") => `(tactic| repeat' (first | walk_at "lv1" | (with_reducible refine ev_lst ?_) | (with_reducible refine s_seq ?_) | walk_at "lv2" | dsimp only))
local macro_rules
  | `(tactic| walk_at "lve0") => `(tactic| repeat' (first
    | (with_reducible first | refine ev_var rfl ?_ | refine ev_int ?_ | refine ev_str ?_ | refine et_test ?_ | refine ev_eqE ?_ | refine ev_op ?_ | refine g_bl ?_ | refine g_eqI ?_ | refine g_eqSt ?_ | refine g_eqSf (by decide +kernel) ?_ | refine g_eqS ?_ | refine g_int ?_ | refine g_ifT ?_ | refine g_ifF ?_ | refine g_ifD ?_ ?_) | walk_at "lv2" | dsimp only))
local macro_rules
  | `(tactic| walk_at "lvx") => `(tactic| repeat' (first | (refine fun hx => absurd hx ?_; (with_reducible fail_if_success assumption); simp; done) | (refine fun _ => ?_; walk_at "lv")))
def freshL (sh : List Str) : List Str := wl.filter fun s => !decide (s ∈ sh)
def W_law_wordlist : Fw := fun ds M P => ∃ (n : Nat) (sh : List Str), ds = [.int (n : Nat), .sq true (sh.map D.str)] ∧ NewL (((freshL sh).take n).map D.str) M P
theorem wl_eq : (signs abc ++ (abc.cps.toList.map fun c => D.str ("a" ++ ⟨#[c]⟩)) ++ (abc.cps.toList.map fun c => D.str ("b" ++ ⟨#[c]⟩))) = wl.map D.str := by
  have h : (abc.cps.toList.map (fun c => (⟨#[c]⟩ : Str)) ++ (abc.cps.toList.map fun c => (("a" : Str) ++ ⟨#[c]⟩)) ++ (abc.cps.toList.map fun c => (("b" : Str) ++ ⟨#[c]⟩))) = wl := by decide +kernel
  rw [← h, List.map_append, List.map_append, List.map_map, List.map_map, List.map_map]
  rfl
def N_law_wordlist : List Str := ["_law_count", "_law_shut", "_law_found", "_law_letters", "_law_one_here", "_law_sign"]
def P_law_wordlist : List Str := ["_law_count", "_law_shut"]
theorem sc_law_wordlist : FnScope N_law_wordlist P_law_wordlist (defScope s_law_wordlist) := ⟨rfl, rfl, rfl, by decide +kernel, rfl, by decide +kernel, by decide +kernel⟩
theorem h_law_wordlist {z : Cz} {mg : Str → Option Value} {base : Heap} {CF CT : Addr} (G : Gf z mg CF CT) (Dd : Df z mg "_law_wordlist" s_law_wordlist)  : Has z mg base "_law_wordlist" P_law_wordlist (0 + 1) (W_law_wordlist) := by
  refine okDf Dd sc_law_wordlist (fun _ _ _ _ _ _ us hl => match us, hl with | [_, _], _ => rfl) (fun ds M P hw => ?_) (fun f cdv A outer s H E hr ds M P hw => ?_)
  · obtain ⟨n, sh, rfl, _⟩ := hw
    rfl
  obtain ⟨n, sh, rfl, k⟩ := hw
  refine ⟨_, (pss_cons (ps_par (i := 2) (j := 3) rfl sc_law_wordlist.nd rfl rfl (by decide) rfl rfl (pa_cons (pe_lst pa_nil) (pa_cons pe_str pa_nil)) (by rfl)) (pss_cons (ps_for PassesOwn.never rfl (zi_seq z (pe_op ox_add (pe_op ox_add (pe_callTy (zc_list z) rfl G.list boot_list (pa_cons (pv 3) pa_nil)) (pe_lc (own := [("_law_sign", 5)]) rfl sc_law_wordlist.nd (pi_str (pv 3)) (blkOk_by (N := N_law_wordlist) (sc := defScope s_law_wordlist) (by decide +kernel)) (fun _ _ _ _ _ => (pg_name (i := 5) sc_law_wordlist.nd rfl (.inl rfl))) (fun _ _ _ _ _ => pts_nil) (fun _ _ _ _ _ => (pe_op ox_add pe_str (pv 5))))) (pe_lc (own := [("_law_sign", 5)]) rfl sc_law_wordlist.nd (pi_str (pv 3)) (blkOk_by (N := N_law_wordlist) (sc := defScope s_law_wordlist) (by decide +kernel)) (fun _ _ _ _ _ => (pg_name (i := 5) sc_law_wordlist.nd rfl (.inl rfl))) (fun _ _ _ _ _ => pts_nil) (fun _ _ _ _ _ => (pe_op ox_add pe_str (pv 5)))))) (pg_name (i := 4) sc_law_wordlist.nd rfl (.inl rfl)) (pss_one (ps_if (PW.pt (pw_and (pt_cmpR (zo_notIn z) (pv 4) (pv 1) (by with_unfolding_all rfl)) (pw_and1 (pt_cmpR ox_lt (pe_callB (zc_len z) rfl G.len boot_len (pa_cons (pv 2) pa_nil)) (pv 0) (nomark _))))) (pss_one (ps_expr (zx_bm z PySem.F.plainAttrs_list PySem.F.slot_list_append PySem.F.type_list_append xm_append (pv 2) (pa_cons (pv 4) pa_nil)))) pss_nil))) (pss_one (ps_ret (pv 2))))), ?_⟩
  have hab : abc.cps.toList.length = 26 := by decide +kernel
  have hwl : wl.length = 78 := by decide +kernel
  refine s_seq (s_par (ea_cons (ev_lst0 fun q hq => ea_cons (ev_str (ea_nil ⟨_, _, rfl, ?_⟩)))))
  refine s_seq (s_for (js := [4]) (ei_seq (ev_op (ev_op (ev_cb (ea_cons (ev_var rfl (ea_nil (.inr (.inr ⟨abc, rfl, ?_, .inl ?_⟩))))))))))
  · simp only [signs, List.length_map, hab]; exact szl (by omega)
  have hlist : ∀ (pre : Str) (Γ : Gam) (P' : D → Mem → Prop) (h3 : Γ[3]? = some (some (.str abc))) (h5 : ∀ x : D, ((wipeG Γ [5]).set 5 (some x))[5]? = some (some x)), P' (.sq true (abc.cps.toList.map fun c => D.str (pre ++ ⟨#[c]⟩))) (mupd M q (.lst [])) → pre.length ≤ 5 →
      EV z (tLc (iStr (tVar 3)) (gName 5) tYes (tOp rAddU (tC (.str pre)) (tVar 5)) [5]) Γ (mupd M q (.lst [])) P' := by
    intro pre Γ P' h3 h5 hp hpre
    refine ev_lcA [5] (fun _ h => h) abc.cps.toList (fun c => D.str ⟨#[c]⟩) (fun c => D.str (pre ++ ⟨#[c]⟩)) (ei_str (ev_var h3 ⟨abc, rfl, rfl, by rw [hab]; exact szl (by omega), trivial, ?_, ?_, .inl hp⟩))
    · intro i c hc
      refine eg_name ⟨rfl, ev_op (ev_str (ev_var (h5 _) (.inr (.inl ⟨_, _, rfl, rfl, ?_, rfl, rfl⟩))))⟩
      show pre.length + 1 ≤ sizeLine
      exact szl (by omega)
    · rw [List.length_map, hab]; exact szl (by omega)
  refine hlist "a" _ _ rfl (fun x => rfl) ?_ (by decide +kernel)
  refine .inr (.inr ⟨_, _, .q, .q, ?_, .inl ?_⟩)
  · simp only [signs, List.length_append, List.length_map, hab]; exact szl (by omega)
  refine hlist "b" _ _ rfl (fun x => rfl) ?_ (by decide +kernel)
  refine .inr (.inr ⟨_, _, .q, .q, ?_, .inl ?_⟩)
  · simp only [signs, List.length_append, List.length_map, hab]; exact szl (by omega)
  rw [wl_eq]
  refine ⟨_, .q, fun i γ m => ∃ c4 c5, γ = [some (.int (n : Nat)), some (.sq true (sh.map D.str)), some (.ref q), some (.str abc), c4, c5] ∧ m = mupd M q (.lst ((((wl.take i).filter fun s => !decide (s ∈ sh)).take n).map D.str)), ⟨_, _, rfl, by simp⟩, fun _ _ _ _ _ => .q, ?_, ?_⟩
  · rintro i x γ m hx ⟨c4, c5, rfl, rfl⟩
    rw [List.getElem?_map] at hx
    cases qs : wl[i]? with
    | none => rw [qs] at hx; cases hx
    | some s =>
      rw [qs] at hx
      cases hx
      have hi : i < 78 := by have := (List.getElem?_eq_some_iff.mp qs).1; omega
      have htk := filter_take_succ (c := fun s => !decide (s ∈ sh)) qs
      generalize hf : ((wl.take i).filter fun s => !decide (s ∈ sh)) = found at htk ⊢
      have hfl : found.length ≤ 78 := by rw [← hf]; refine Nat.le_trans (List.length_filter_le _ _) ?_; rw [List.length_take]; omega
      refine eg_name (s_if (et_and (et_test (ev_op (ev_var rfl (ev_var rfl ⟨_, .q, rfl, flat_strs _, _, rfl, fun h1 => ?_, fun h1 => ?_⟩))))))
      · rw [inD_str] at h1
        have h1' : s ∉ sh := by simpa using h1
        rw [if_pos (by simpa using h1')] at htk
        refine et_test (ev_op (ev_cb (ea_cons (ev_var rfl (ea_nil (.inl ⟨_, _, rfl, .r mupd_same, ev_var rfl ⟨_, _, rfl, rfl, _, rfl, fun h2 => ?_, fun h2 => ?_⟩⟩))))))
        · have h2' := of_decide_eq_true h2
          rw [List.length_map, List.length_take] at h2'
          have hlt : found.length < n := by omega
          refine s_drop (ev_bm (ev_var rfl ⟨⟨_, .inl ⟨q, rfl, mupd_same⟩⟩, ea_cons (ev_var rfl (ea_nil ⟨q, _, rfl, mupd_same, _, rfl, by rw [List.length_map, List.length_take]; simp only [sizeLine]; omega, ?_⟩))⟩))
          refine ⟨_, _, rfl, ?_⟩
          rw [mupd_mupd, htk, List.take_of_length_le (by omega : found.length ≤ n), List.take_of_length_le (by simp; omega), List.map_append]
          rfl
        · have h2' := of_decide_eq_false h2
          rw [List.length_map, List.length_take] at h2'
          refine s_next ⟨_, _, rfl, ?_⟩
          rw [htk, List.take_append_of_le_length (by omega)]
      · rw [inD_str] at h1
        have h1' : s ∈ sh := by simpa using h1
        rw [if_neg (by simpa using h1'), List.append_nil] at htk
        refine ⟨(fun q => nomatch q), fun _ => s_next ⟨_, _, rfl, ?_⟩⟩
        rw [htk]
  · rintro γ m ⟨c4, c5, rfl, rfl⟩
    rw [List.length_map, List.take_length]
    obtain ⟨hz, kk | kk⟩ := k
    · refine EVS.freeze 2 rfl mupd_same hz ?_
      rw [mdel_mupd hq]
      exact s_ret (ev_var rfl kk)
    · exact s_ret (ev_var rfl (kk q hq))
def wishL (W : List (Option Str)) : List Str := W.filterMap id
def shutL (S : Scn) (W : List (Option Str)) : List Str := free S ++ wishL W ++ S.nm
theorem shut_eq (S : Scn) (W : List (Option Str)) : freshL (shutL S W) = freshW (nset (shutN S W)) := by
  unfold freshL freshW
  apply List.filter_congr
  intro s _
  congr 1
  refine decide_eq_decide.mpr ?_
  rw [nset_mem]
  unfold shutL shutN wishL
  simp only [List.mem_append, List.mem_filterMap, List.mem_map, id, or_assoc]
  constructor
  · rintro (h | ⟨w, h, e⟩ | h)
    · exact .inl ⟨s, h, rfl⟩
    · exact .inr (.inl (e ▸ h))
    · exact .inr (.inr ⟨s, h, rfl⟩)
  · rintro (⟨w, h, e⟩ | h | ⟨w, h, e⟩)
    · cases e; exact .inl h
    · exact .inr (.inl ⟨_, h, rfl⟩)
    · cases e; exact .inr (.inr h)
theorem wish_eq (W : List (Option Str)) : (W.filter fun w => !w.isNone).map dW = (wishL W).map D.str := by
  unfold wishL
  induction W with
  | nil => rfl
  | cons w W ih =>
    cases w with
    | none => rw [List.filter_cons_of_neg (by simp), List.filterMap_cons_none (f := id) rfl]; exact ih
    | some s => rw [List.filter_cons_of_pos (by rfl), List.filterMap_cons_some (f := id) (b := s) rfl, List.map_cons, List.map_cons, ih]; rfl
def W_law_told_kept : Fw := fun ds M P => ∃ (t : Tr) (p : Addr) (X Y : D) (bb k k' : Bool) (W : List (Option Str)) (V : List Int), ds = [.ref p, dWs k W, dVs k' V] ∧ TmOk t ∧ PgM M p t X Y bb ∧ WOk t W ∧ V.length = W.length ∧ P (.sq false ((told (scn t) W V).map D.str)) (mupd M p (pgT t X Y))
def N_law_told_kept : List Str := ["_law_page_here", "_law_wishes_here", "_law_weights_here", "_law_found", "_law_shut", "_law_spare", "_law_binder", "_law_wish"]
def P_law_told_kept : List Str := ["_law_page_here", "_law_wishes_here", "_law_weights_here"]
theorem sc_law_told_kept : FnScope N_law_told_kept P_law_told_kept (defScope s_law_told_kept) := ⟨rfl, rfl, rfl, by decide +kernel, rfl, by decide +kernel, by decide +kernel⟩
theorem h_law_told_kept {z : Cz} {mg : Str → Option Value} {base : Heap} {CF CT : Addr} (G : Gf z mg CF CT) (Dd : Df z mg "_law_told_kept" s_law_told_kept) (H_law_kept_ones : Has z mg base "_law_kept_ones" P_law_kept_ones 9 W_law_kept_ones) (H_law_free : Has z mg base "_law_free" P_law_free 3 W_law_free) (H_law_wordlist : Has z mg base "_law_wordlist" P_law_wordlist 1 W_law_wordlist) : Has z mg base "_law_told_kept" P_law_told_kept (9 + 1) (W_law_told_kept) := by
  refine okDf Dd sc_law_told_kept (fun _ _ _ _ _ _ us hl => match us, hl with | [_, _, _], _ => rfl) (fun ds M P hw => ?_) (fun f cdv A outer s H E hr ds M P hw => ?_)
  · obtain ⟨t, p, X, Y, bb, k, k', W, V, rfl, _⟩ := hw
    rfl
  obtain ⟨t, p, X, Y, bb, kk, k', W, V, rfl, ht, hp, hw, hv, k⟩ := hw
  refine ⟨_, (pss_cons (ps_set (i := 3) sc_law_told_kept.nd rfl (.inr rfl) (px_call H_law_kept_ones (hr.mono (by omega)) rfl (pa_cons (pv 0) (pa_cons (pv 1) (pa_cons (pv 2) pa_nil))))) (pss_cons (ps_set (i := 4) sc_law_told_kept.nd rfl (.inl rfl) (pe_op ox_add (pe_op ox_add (px_call H_law_free (hr.mono (by omega)) rfl (pa_cons (pv 0) pa_nil)) (pe_lc (own := [("_law_wish", 7)]) rfl sc_law_told_kept.nd (zi_seq z (pv 1)) (blkOk_by (N := N_law_told_kept) (sc := defScope s_law_told_kept) (by decide +kernel)) (fun _ _ _ _ _ => (pg_name (i := 7) sc_law_told_kept.nd rfl (.inl rfl))) (fun _ _ _ _ _ => (pts_one (pt_cmpR ox_notN (pv 7) pe_non (nomark _)))) (fun _ _ _ _ _ => (pv 7)))) (pe_dget (hu_of hr) (pv 0) pe_str (fun _ _ => rfl)))) (pss_cons (ps_set (i := 5) sc_law_told_kept.nd rfl (.inr rfl) (px_call H_law_wordlist (hr.mono (by omega)) rfl (pa_cons (pe_callB (zc_len z) rfl G.len boot_len (pa_cons (pv 1) pa_nil)) (pa_cons (pv 4) pa_nil)))) (pss_one (ps_ret (pe_callTy (zc_tuple z) rfl G.tuple boot_tuple (pa_cons (pe_lc (own := [("_law_binder", 6)]) rfl sc_law_told_kept.nd (pi_range1 rfl G.range (pa_cons (pe_callB (zc_len z) rfl G.len boot_len (pa_cons (pv 1) pa_nil)) pa_nil)) (blkOk_by (N := N_law_told_kept) (sc := defScope s_law_told_kept) (by decide +kernel)) (fun _ _ _ _ _ => (pg_name (i := 6) sc_law_told_kept.nd rfl (.inl rfl))) (fun _ _ _ _ _ => pts_nil) (fun _ _ _ _ _ => (pe_ifExp (pt_cmpR (zo_in z) (pv 6) (pv 3) (by with_unfolding_all rfl)) (zx_ix z (pv 1) (pv 6)) (zx_bm z PySem.F.plainAttrs_list PySem.F.slot_list_pop PySem.F.type_list_pop xm_popAt (pv 5) (pa_cons pe_int pa_nil))))) pa_nil))))))), ?_⟩
  have h6 := nmN t
  have hU := usN ht.2.1
  have hb6 := ht.2.2
  have hWl : W.length = (scn t).nm.length := hw.1
  have hn6 : (scn t).nm.length ≤ 6 := by omega
  refine EVS.forget ?_
  refine s_seq (s_set (ev_call (ea_cons (ev_var rfl (ea_cons (ev_var rfl (ea_cons (ev_var rfl (ea_nil ⟨t, p, X, Y, bb, kk, k', W, V, rfl, ht, hp, hWl, hv, ?_⟩)))))))))
  generalize hM1 : mupd M p (pgT t X Y) = M1 at k
  have hp1 : PgM M1 p t X Y true := by rw [← hM1]; exact pgT_at
  generalize hK : kept (LV (scn t)) W V = K
  have hKm : ∀ b ∈ K, ∃ s, W[b]? = some (some s) := fun b hb => by
    rw [← hK] at hb
    obtain ⟨s, h1, _⟩ := sel_mem.mp (kept_lt hb)
    exact ⟨s, h1⟩
  have hKf : ((K.map fun i => D.int (i : Nat))).all flatD = true := flat_nat K
  have hfl := free_len (S := scn t)
  have hwl2 : (wishL W).length ≤ W.length := List.length_filterMap_le _ _
  refine s_seq (s_set (ev_op (ev_op (ev_call (ea_cons (ev_var rfl (ea_nil ⟨t, p, X, Y, true, rfl, ht, hp1, ?_⟩)))))))
  refine ev_lcX [7] (fun _ h => h) W dW (fun w => !w.isNone) dW (ei_seq (ev_var rfl ⟨_, .q, rfl, szl (by omega), .q, ?_, ?_, .inl ?_⟩))
  · intro i w hw2
    refine eg_name ⟨rfl, et_test (ev_op (ev_var rfl (ev_non ⟨rfl, _, rfl, ?_, rfl, fun _ => ev_var rfl ⟨rfl, rfl⟩⟩)))⟩
    rw [isNon_dW]
  · rw [List.length_map]; exact Nat.le_trans (List.length_filter_le _ _) (szl (by omega))
  rw [wish_eq]
  refine .inr (.inr ⟨_, _, .q, .q, ?_, .inl ?_⟩)
  · simp only [List.length_append, List.length_map]; exact szl (by omega)
  refine ev_pg rfl hp1 pv_names (.inr (.inr ⟨_, _, .q, .q, ?_, .inl ?_⟩))
  · simp only [List.length_append, List.length_map]; exact szl (by omega)
  have eS : (free (scn t)).map D.str ++ (wishL W).map D.str ++ (scn t).nm.map D.str = (shutL (scn t) W).map D.str := by
    unfold shutL
    rw [List.map_append, List.map_append]
  rw [eS]
  have esp : (freshL (shutL (scn t) W)).take W.length = spareN (scn t) W := by rw [shut_eq]; rfl
  have hspl : (spareN (scn t) W).length = W.length := by
    unfold spareN
    rw [List.length_take]
    have := spare_len hU hn6 hWl
    omega
  refine s_seq (s_set (ev_call (ea_cons (ev_cb (ea_cons (ev_var rfl (ea_nil (.inl ⟨_, _, rfl, .q, ?_⟩))))))))
  refine ea_cons (ev_var rfl (ea_nil ⟨W.length, shutL (scn t) W, by rw [List.length_map], ?_, .inr fun q hq => ?_⟩))
  · rw [esp, List.length_map, hspl]; exact szl (by omega)
  rw [esp]
  refine s_ret (ev_cb (ea_cons ?_))
  refine ev_lc [6] (fun _ h => h) (ei_rng (ea_cons (ev_cb (ea_cons (ev_var rfl (ea_nil (.inl ⟨_, _, rfl, .q, ?_⟩)))))))
  refine ea_nil ⟨W.length, by rw [List.length_map], by omega, by omega, ?_⟩
  have hrl : (rgD 0 (W.length : Int).toNat).length = W.length := by simp [rgD]
  refine ⟨by rw [hrl]; exact szl (by omega), fun i acc m => acc = ((List.range i).map (toldAt W K (spareN (scn t) W))).map D.str ∧ m = mupd M1 q (.lst (((spareN (scn t) W).drop (cntK K i)).map D.str)), ⟨rfl, rfl⟩, fun i acc m hi ⟨e1, e2⟩ => ⟨trivial, by rw [e1]; simp⟩, ?_, ?_⟩
  · rintro i x acc m hx ⟨rfl, rfl⟩
    have hi : i < W.length := by have := (List.getElem?_eq_some_iff.mp hx).1; rw [hrl] at this; exact this
    have hx2 : x = .int (i : Nat) := by
      rw [show (W.length : Int).toNat = W.length from Int.toNat_natCast _, rgD_map, List.getElem?_map, List.getElem?_range hi] at hx
      cases hx; rfl
    subst hx2
    refine eg_name (et_yes ⟨fun _ => ?_, fun q => nomatch q⟩)
    refine ev_if (et_test (ev_op (ev_var rfl (ev_var rfl ⟨_, .q, rfl, hKf, _, rfl, fun h1 => ?_, fun h1 => ?_⟩))))
    · rw [inD_nat] at h1
      have hm := of_decide_eq_true h1
      obtain ⟨s, hs⟩ := hKm i hm
      refine ev_op (ev_var rfl (ev_var rfl ⟨_, rfl, .inl ⟨_, .str s, .q, atI_nat i (by rw [List.getElem?_map, hs]; rfl), ?_, ?_⟩⟩))
      · rw [List.range_succ, List.map_append, List.map_append]
        show _ = _ ++ [D.str (toldAt W K (spareN (scn t) W) i)]
        unfold toldAt
        rw [if_pos hm, List.getD_eq_getElem?_getD, hs]
        rfl
      · rw [cntK_succ, if_pos hm]; rfl
    · rw [inD_nat] at h1
      have hm := of_decide_eq_false h1
      have hc : cntK K i < (spareN (scn t) W).length := by have := cntK_le K i; omega
      have ed : (spareN (scn t) W).drop (cntK K i) = (spareN (scn t) W)[cntK K i] :: (spareN (scn t) W).drop (cntK K i + 1) := List.drop_eq_getElem_cons hc
      refine ev_bm (ev_var rfl ⟨⟨_, .inl ⟨q, rfl, mupd_same⟩⟩, ea_cons (ev_int (ea_nil ⟨q, _, rfl, mupd_same, .str (spareN (scn t) W)[cntK K i], ((spareN (scn t) W).drop (cntK K i + 1)).map D.str, rfl, by rw [ed]; rfl, ?_, ?_⟩))⟩)
      · rw [List.range_succ, List.map_append, List.map_append]
        show _ = _ ++ [D.str (toldAt W K (spareN (scn t) W) i)]
        unfold toldAt
        rw [if_neg hm, List.getD_eq_getElem?_getD, List.getElem?_eq_getElem hc]
        rfl
      · rw [mupd_mupd, cntK_succ, if_neg hm]
  · rintro acc m ⟨rfl, rfl⟩
    rw [hrl]
    refine ⟨by simp; exact szl (by omega), .inl ?_⟩
    refine ea_nil ⟨_, _, rfl, .q, by simp; exact szl (by omega), M1, mupd_ex hq, ?_⟩
    unfold told toldL at k
    rw [hK] at k
    exact k
def W_law_named : Fw := fun ds M P => ∃ (p : D) (d : D) (xs : List Str) (m : Key), ds = [p, d, kD m] ∧ IsS M d (xs.map D.str) ∧ mOk xs.length m ∧ P (.str (nmf xs m)) M
def N_law_named : List Str := ["_law_page_here", "_law_naming", "_law_thing"]
def P_law_named : List Str := ["_law_page_here", "_law_naming", "_law_thing"]
theorem sc_law_named : FnScope N_law_named P_law_named (defScope s_law_named) := ⟨rfl, rfl, rfl, by decide +kernel, rfl, by decide +kernel, by decide +kernel⟩
theorem h_law_named {z : Cz} {mg : Str → Option Value} {base : Heap} {CF CT : Addr} (G : Gf z mg CF CT) (Dd : Df z mg "_law_named" s_law_named)  : Has z mg base "_law_named" P_law_named (0 + 1) (W_law_named) := by
  refine okDf Dd sc_law_named (fun _ _ _ _ _ _ us hl => match us, hl with | [_, _, _], _ => rfl) (fun ds M P hw => ?_) (fun f cdv A outer s H E hr ds M P hw => ?_)
  · obtain ⟨p, d, xs, m, rfl, _⟩ := hw
    rfl
  obtain ⟨p, d, xs, m, rfl, hd, hm, k⟩ := hw
  refine ⟨_, (pss_one (ps_ret (pe_ifExp (pt_val (pe_callB (zc_isi z) rfl G.isinstance boot_isinstance (pa_cons (pv 2) (pa_cons (px_ty G.str boot_str2 rfl) pa_nil)))) (pv 2) (zx_ix z (pv 1) (pv 2))))), ?_⟩
  cases m with
  | inr s => exact s_ret (ev_if (et_b (ev_isi (ev_var rfl ⟨_, _, rfl, kb_ss, _, rfl, fun _ => ev_var rfl k, fun q => nomatch q⟩))))
  | inl i =>
    obtain ⟨b, rfl, hb⟩ := hm
    refine s_ret (ev_if (et_b (ev_isi (ev_var rfl ⟨_, _, rfl, kb_is, _, rfl, (fun q => nomatch q), fun _ => ?_⟩))))
    refine ev_op (ev_var rfl (ev_var rfl ⟨_, rfl, .inl ⟨_, _, hd, atI_nat b (by rw [List.getElem?_map, List.getElem?_eq_getElem hb]; rfl), ?_⟩⟩))
    have e : nmf xs (.inl (b : Nat)) = xs[b] := by
      show xs.getD (Int.toNat (b : Nat)) "" = xs[b]
      rw [Int.toNat_natCast, List.getD_eq_getElem?_getD, List.getElem?_eq_getElem hb]
      rfl
    rw [e] at k
    exact k
end Lv

set_option Elab.async false
set_option linter.all false
set_option maxRecDepth 100000
set_option maxHeartbeats 4000000
set_option pp.maxSteps 400
set_option pp.deepTerms false
namespace Lv
open PySem PySem.Spec PyProof.Rows L2 StX
local macro_rules
  | `(tactic| walk_at "lv1") => `(tactic| with_reducible (first
    | refine s_set ?_ | refine s_ret ?_ | refine s_if ?_ | refine s_drop ?_ | refine s_next ?_ | refine s_par ?_ | refine s_par3 ?_ | refine s_subL ?_ | refine s_unl2 ?_ | refine s_tup2 ?_ | refine eg_unl2 ?_ | refine eg_unl3 ?_ | refine eg_tup2 ?_
    | refine ev_var rfl ?_ | refine ev_int ?_ | refine ev_str ?_ | refine ev_bl ?_ | refine ev_non ?_ | refine ev_ref ?_
    | refine ev_lst0 ?_ | refine ev_eqE ?_ | refine ev_neE ?_ | refine ev_op ?_ | refine ev_un ?_ | refine ev_isiLT ?_ | refine ev_isi ?_ | refine ev_cb ?_ | refine ev_chain ?_ | refine ev_andV ?_ | refine ev_orV ?_ | refine ev_notV ?_ | refine ev_if ?_ | refine ev_tup ?_ | refine ev_call ?_
    | refine et_and ?_ | refine et_or ?_ | refine et_not ?_ | refine et_test ?_ | refine et_b ?_ | refine et_yes ?_
    | refine ea_cons ?_ | refine ea_nil ?_
    | refine g_int2 ?_ | refine g_bl ?_ | refine g_int ?_ | refine g_addI ?_ | refine g_eqI ?_ | refine g_eqSt ?_ | refine g_eqSf (by decide +kernel) ?_ | refine g_eqS ?_ | refine g_eqIS ?_ | refine g_eqSI ?_ | refine g_eqNS ?_ | refine g_isn ?_
    | refine g_par ?_ | refine g_par3 ?_ | refine g_neg ?_
    | refine g_ifT ?_ | refine g_ifNT ?_ | refine g_ifNF ?_ | refine g_ifF ?_ | refine g_ifD ?_ ?_ | refine g_ifDN ?_ ?_
    | refine eg_name ?_ | refine eg_setL ?_))
local macro_rules
  | `(tactic| walk_at "lvM") => `(tactic| first | assumption | exact mupd_same)
local macro_rules
  | `(tactic| walk_at "lvW") => `(tactic| with_unfolding_all rfl)
local macro_rules
  | `(tactic| walk_at "lvA") => `(tactic| first | with_unfolding_all rfl | with_unfolding_all exact atI_nat 0 rfl | with_unfolding_all exact atI_nat 1 rfl)
local macro_rules
  | `(tactic| walk_at "lv2") => `(tactic| with_reducible (first
    | refine ⟨_, _, (by walk_at "lvW"), kb_ii, ?_⟩ | refine ⟨_, _, (by walk_at "lvW"), kb_ib, ?_⟩ | refine ⟨_, _, (by walk_at "lvW"), kb_is, ?_⟩ | refine ⟨_, _, (by walk_at "lvW"), kb_ss, ?_⟩ | refine ⟨_, _, (by walk_at "lvW"), kb_tt, ?_⟩
    | refine .inl ⟨_, _, rfl, IsS.q, ?_⟩ | refine .inl ⟨_, _, rfl, IsS.r (by walk_at "lvM"), ?_⟩ | refine .inl ⟨_, _, rfl, IsS.sc, ?_⟩
    | refine .inl ⟨_, _, IsS.q, (by walk_at "lvA"), ?_⟩ | refine .inl ⟨_, _, IsS.r (by walk_at "lvM"), (by walk_at "lvA"), ?_⟩
    | refine .inl (g_int2 (And.intro (CMul.l (by omega) (by omega)) ?_)) | refine .inl (g_int2 (And.intro (CMul.r (by omega) (by omega)) ?_))
    | refine And.intro (CDiv.mk (by omega) (by omega)) ?_ | refine And.intro (by omega) ?_ | refine And.intro (Nat.le_of_ble_eq_true (by walk_at "lvW")) ?_
    | refine .inl ⟨_, _, rfl, ?_⟩
    | refine .inl ⟨_, rfl, ?_⟩ | refine .inr ⟨_, rfl, ?_⟩
    | refine ⟨_, _, _, _, rfl, (by walk_at "lvM"), rfl, (by walk_at "lvW"), ?_⟩
    | refine ⟨_, _, rfl, IsL.q, ?_⟩
    | refine ⟨_, rfl, .inl ⟨_, _, IsS.q, (by walk_at "lvA"), ?_⟩⟩))
local macro_rules
  | `(tactic| walk_at "lvm") => `(tactic| repeat' (first | walk_at "lv1" | (with_reducible refine s_seq ?_) | walk_at "lv2" | dsimp only))
local macro_rules
  | `(tactic| walk_at "lve") => `(tactic| repeat' (first | walk_at "lv1" | (with_reducible refine ev_lst ?_) | walk_at "lv2" | dsimp only))
local macro_rules
  | `(tactic| walk_at "lv") => `(tactic| repeat' (first | walk_at "lv1" | (with_reducible refine ev_lst ?_) | (with_reducible refine s_seq ?_) | walk_at "lv2" | dsimp only))
local macro_rules
  | `(tactic| walk_at "lve0") => `(tactic| repeat' (first
    | (with_reducible first | refine ev_var rfl ?_ | refine ev_int ?_ | refine ev_str ?_ | refine et_test ?_ | refine ev_eqE ?_ | refine ev_op ?_ | refine g_bl ?_ | refine g_eqI ?_ | refine g_eqSt ?_ | refine g_eqSf (by decide +kernel) ?_ | refine g_eqS ?_ | refine g_int ?_ | refine g_ifT ?_ | refine g_ifF ?_ | refine g_ifD ?_ ?_) | walk_at "lv2" | dsimp only))
local macro_rules
  | `(tactic| walk_at "lvx") => `(tactic| repeat' (first | (refine fun hx => absurd hx ?_; (with_reducible fail_if_success assumption); simp; done) | (refine fun _ => ?_; walk_at "lv")))
def W_law_wishes : Fw := fun ds M P => ∃ (t : Tr) (p q : Addr) (X Y : D) (b : Bool), ds = [.ref q, .ref p] ∧ TmOk t ∧ PgM M p t X Y b ∧ Src M q ∧ p ≠ q ∧ ∀ W M', WOk t W → SrcR M q M' → P (dWs true W) M'
theorem PgM.src {M M' : Mem} {p q : Addr} {t : Tr} {X Y : D} {b : Bool} (h : PgM M p t X Y b) (s : SrcR M q M') (hq : p ≠ q) : PgM M' p t X Y b := by
  unfold PgM
  rw [s.get hq]
  exact h
theorem free_ok2 {S : Scn} (s : Sound S) : ∀ x ∈ free S, OkName x := by
  intro x hx
  unfold free at hx
  exact free_ok s x (uq_mem.mp (srt_mem.mp hx))
def N_law_wishes : List Str := ["_law_source", "_law_page_here", "_law_words_here", "_law_binder"]
def P_law_wishes : List Str := ["_law_source", "_law_page_here"]
theorem sc_law_wishes : FnScope N_law_wishes P_law_wishes (defScope s_law_wishes) := ⟨rfl, rfl, rfl, by decide +kernel, rfl, by decide +kernel, by decide +kernel⟩
theorem h_law_wishes {z : Cz} {mg : Str → Option Value} {base : Heap} {CF CT : Addr} (G : Gf z mg CF CT) (Dd : Df z mg "_law_wishes" s_law_wishes) (H_law_one : Has z mg base "_law_one" P_law_one 2 W_on) (H_law_take : Has z mg base "_law_take" P_law_take 1 W_tk) (H_law_free : Has z mg base "_law_free" P_law_free 3 W_law_free) : Has z mg base "_law_wishes" P_law_wishes (3 + 1) (W_law_wishes) := by
  refine okDf Dd sc_law_wishes (fun _ _ _ _ _ _ us hl => match us, hl with | [_, _], _ => rfl) (fun ds M P hw => ?_) (fun f cdv A outer s H E hr ds M P hw => ?_)
  · obtain ⟨t, p, q, X, Y, b, rfl, _⟩ := hw
    rfl
  obtain ⟨t, p, q, X, Y, b, rfl, ht, hp, hq, hpq, k⟩ := hw
  refine ⟨_, (pss_cons (ps_set (i := 2) sc_law_wishes.nd rfl (.inr rfl) (px_call H_law_one (hr.mono (by omega)) rfl (pa_cons (pv 0) (pa_cons (pe_lst (pa_cons (pe_lst (pa_cons pe_str pa_nil)) (pa_cons (pe_lst (pa_cons pe_str (pa_cons pe_str pa_nil))) (pa_cons (pe_op ox_add (pe_dget (hu_of hr) (pv 1) pe_str (fun _ _ => rfl)) (pe_lst (pa_cons pe_str pa_nil))) (pa_cons (pe_op ox_add (px_call H_law_free (hr.mono (by omega)) rfl (pa_cons (pv 1) pa_nil)) (pe_lst (pa_cons pe_str (pa_cons pe_str pa_nil)))) pa_nil))))) pa_nil)))) (pss_one (ps_ret (pe_lc (own := [("_law_binder", 3)]) rfl sc_law_wishes.nd (zi_seq z (pe_dget (hu_of hr) (pv 1) pe_str (fun _ _ => rfl))) (blkOk_by (N := N_law_wishes) (sc := defScope s_law_wishes) (by decide +kernel)) (fun _ _ _ _ _ => (pg_name (i := 3) sc_law_wishes.nd rfl (.inl rfl))) (fun _ _ _ _ _ => pts_nil) (fun _ _ _ _ _ => (pe_ifExp (pt_cmpR ox_gt (px_call H_law_take (hr.mono (by omega)) rfl (pa_cons (pv 0) (pa_cons pe_int pa_nil))) pe_int (nomark _)) (px_call H_law_one (hr.mono (by omega)) rfl (pa_cons (pv 0) (pa_cons (pv 2) pa_nil))) pe_non)))))), ?_⟩
  have h6 := nmN t
  have hU := usN ht.2.1
  have hb6 := ht.2.2
  have snd := sound_scn ht.1
  have hfl := free_len (S := scn t)
  refine s_seq (s_set (ev_call (ea_cons (ev_var rfl (ea_cons (ev_lst ?_))))))
  walk_at "lve"
  refine ev_pg rfl hp pv_names ?_
  walk_at "lve"
  refine .inr (.inr ⟨_, _, .q, .q, ?_, .inl ?_⟩)
  · simp only [List.length_append, List.length_map, List.length_cons, List.length_nil]; exact szl (by omega)
  walk_at "lve"
  refine ⟨t, p, X, Y, b, rfl, ht, hp, ?_⟩
  walk_at "lve"
  refine .inr (.inr ⟨_, _, .q, .q, ?_, .inl ?_⟩)
  · simp only [List.length_append, List.length_map, List.length_cons, List.length_nil]; exact szl (by omega)
  walk_at "lve"
  refine ⟨q, _, rfl, hq, by simp, by simp, fun x M1 hx hM1 => ?_⟩
  have hws : ∃ ws : List Str, x = .sq true (ws.map D.str) ∧ 0 < ws.length ∧ ws.length ≤ 100 ∧ ∀ w ∈ ws, OkName w := by
    simp only [List.mem_cons, List.not_mem_nil, or_false] at hx
    rcases hx with rfl | rfl | rfl | rfl
    · exact ⟨(["x"] : List Str), rfl, by simp, by simp, by decide +kernel⟩
    · exact ⟨(["x", "y"] : List Str), rfl, by simp, by simp, by decide +kernel⟩
    · refine ⟨(scn t).nm ++ (["q"] : List Str), by rw [List.map_append]; rfl, by simp, by simp; omega, fun w hw => ?_⟩
      rcases List.mem_append.mp hw with h | h
      · exact snd.ok w h
      · have : w = "q" := by simpa using h
        rw [this]; decide +kernel
    · refine ⟨free (scn t) ++ (["x", "a"] : List Str), by rw [List.map_append]; rfl, by simp, by simp; omega, fun w hw => ?_⟩
      rcases List.mem_append.mp hw with h | h
      · exact free_ok2 snd w h
      · have : w = "x" ∨ w = "a" := by simpa using h
        rcases this with rfl | rfl <;> decide +kernel
  obtain ⟨ws, rfl, hw0, hw1, hwo⟩ := hws
  walk_at "lve"
  refine (ev_lc [3] (fun _ h => h) (ei_seq (ev_pg rfl (hp.src hM1 hpq) pv_names ⟨_, .q, by rw [List.length_map]; exact szl (by omega), fun i acc m => ∃ W : List (Option Str), acc = W.map dW ∧ W.length = i ∧ (∀ s, some s ∈ W → OkName s) ∧ SrcR M q m, ⟨[], rfl, rfl, (fun s h => nomatch h), hM1⟩, ?_, ?_, ?_⟩)))
  · rintro i acc m hi ⟨W, rfl, hl, _, _⟩
    exact ⟨.q, by rw [List.length_map, hl]; exact Nat.le_refl _⟩
  · rintro i x acc m hx ⟨W, rfl, hl, hWo, hm⟩
    refine eg_name (et_yes ⟨fun _ => ?_, fun q => nomatch q⟩)
    refine ev_if (et_test (ev_op (ev_call (ea_cons (ev_var rfl (ea_cons (ev_int (ea_nil ⟨q, 6, rfl, hm.src, by decide, by decide, fun r M2 hr0 hr1 hM2 => ?_⟩))))))))
    refine ev_int ⟨_, _, rfl, rfl, _, rfl, fun h1 => ?_, fun h1 => ?_⟩
    · refine ev_call (ea_cons (ev_var rfl (ea_cons (ev_var rfl (ea_nil ⟨q, _, rfl, hM2.src, by simpa using hw0, by rw [List.length_map]; omega, fun y M3 hy hM3 => ?_⟩)))))
      obtain ⟨s, hs, rfl⟩ := List.mem_map.mp hy
      refine ⟨W ++ [some s], by rw [List.map_append]; rfl, by simp [hl], fun s' hs' => ?_, (hm.trans hM2).trans hM3⟩
      rcases List.mem_append.mp hs' with h | h
      · exact hWo s' h
      · have : s' = s := by simpa using h
        rw [this]; exact hwo s hs
    · refine ev_non ⟨W ++ [none], by rw [List.map_append]; rfl, by simp [hl], fun s' hs' => ?_, hm.trans hM2⟩
      rcases List.mem_append.mp hs' with h | h
      · exact hWo s' h
      · simp at h
  · rintro acc m ⟨W, rfl, hl, hWo, hm⟩
    rw [List.length_map] at hl
    exact ⟨by rw [List.length_map, hl]; exact szl (by omega), .inl (k W m ⟨hl, hWo⟩ hm)⟩
def W_law_weights : Fw := fun ds M P => ∃ (t : Tr) (p q : Addr) (X Y : D) (b : Bool), ds = [.ref q, .ref p] ∧ TmOk t ∧ PgM M p t X Y b ∧ Src M q ∧ p ≠ q ∧ ∀ V M', VOk t V → SrcR M q M' → P (dVs true V) M'
def N_law_weights : List Str := ["_law_source", "_law_page_here", "_law_some", "_law_binder"]
def P_law_weights : List Str := ["_law_source", "_law_page_here"]
theorem sc_law_weights : FnScope N_law_weights P_law_weights (defScope s_law_weights) := ⟨rfl, rfl, rfl, by decide +kernel, rfl, by decide +kernel, by decide +kernel⟩
theorem h_law_weights {z : Cz} {mg : Str → Option Value} {base : Heap} {CF CT : Addr} (G : Gf z mg CF CT) (Dd : Df z mg "_law_weights" s_law_weights) (H_law_one : Has z mg base "_law_one" P_law_one 2 W_on) : Has z mg base "_law_weights" P_law_weights (2 + 1) (W_law_weights) := by
  refine okDf Dd sc_law_weights (fun _ _ _ _ _ _ us hl => match us, hl with | [_, _], _ => rfl) (fun ds M P hw => ?_) (fun f cdv A outer s H E hr ds M P hw => ?_)
  · obtain ⟨t, p, q, X, Y, b, rfl, _⟩ := hw
    rfl
  obtain ⟨t, p, q, X, Y, b, rfl, ht, hp, hq, hpq, k⟩ := hw
  refine ⟨_, (pss_cons (ps_set (i := 2) sc_law_weights.nd rfl (.inr rfl) (px_call H_law_one (hr.mono (by omega)) rfl (pa_cons (pv 0) (pa_cons (pe_lst (pa_cons (pe_lst (pa_cons pe_int pa_nil)) (pa_cons (pe_lst (pa_cons pe_int (pa_cons pe_int (pa_cons pe_int pa_nil)))) (pa_cons (pe_lst (pa_cons pe_int (pa_cons pe_int (pa_cons pe_int (pa_cons pe_int (pa_cons pe_int pa_nil)))))) (pa_cons (pe_lst (pa_cons pe_int (pa_cons pe_int (pa_cons pe_int (pa_cons pe_int pa_nil))))) pa_nil))))) pa_nil)))) (pss_one (ps_ret (pe_lc (own := [("_law_binder", 3)]) rfl sc_law_weights.nd (zi_seq z (pe_dget (hu_of hr) (pv 1) pe_str (fun _ _ => rfl))) (blkOk_by (N := N_law_weights) (sc := defScope s_law_weights) (by decide +kernel)) (fun _ _ _ _ _ => (pg_name (i := 3) sc_law_weights.nd rfl (.inl rfl))) (fun _ _ _ _ _ => pts_nil) (fun _ _ _ _ _ => (px_call H_law_one (hr.mono (by omega)) rfl (pa_cons (pv 0) (pa_cons (pv 2) pa_nil)))))))), ?_⟩
  have h6 := nmN t
  have hb6 := ht.2.2
  refine s_seq (s_set (ev_call (ea_cons (ev_var rfl (ea_cons (ev_lst ?_))))))
  walk_at "lve"
  refine ⟨q, _, rfl, hq, by simp, by simp, fun x M1 hx hM1 => ?_⟩
  have hws : ∃ ws : List Int, x = .sq true (ws.map D.int) ∧ 0 < ws.length ∧ ws.length ≤ 100 ∧ ∀ w ∈ ws, 0 ≤ w ∧ w ≤ 1000 := by
    simp only [List.mem_cons, List.not_mem_nil, or_false] at hx
    rcases hx with rfl | rfl | rfl | rfl
    · exact ⟨[1], rfl, by simp, by simp, by decide⟩
    · exact ⟨[0, 1, 2], rfl, by simp, by simp, by decide⟩
    · exact ⟨[1, 2, 3, 5, 8], rfl, by simp, by simp, by decide⟩
    · exact ⟨[0, 7, 999, 1000], rfl, by simp, by simp, by decide⟩
  obtain ⟨ws, rfl, hw0, hw1, hwo⟩ := hws
  walk_at "lve"
  refine (ev_lc [3] (fun _ h => h) (ei_seq (ev_pg rfl (hp.src hM1 hpq) pv_names ⟨_, .q, by rw [List.length_map]; exact szl (by omega), fun i acc m => ∃ W : List Int, acc = W.map D.int ∧ W.length = i ∧ (∀ s ∈ W, 0 ≤ s ∧ s ≤ 1000) ∧ SrcR M q m, ⟨[], rfl, rfl, (fun s h => nomatch h), hM1⟩, ?_, ?_, ?_⟩)))
  · rintro i acc m hi ⟨W, rfl, hl, _, _⟩
    exact ⟨.q, by rw [List.length_map, hl]; exact Nat.le_refl _⟩
  · rintro i x acc m hx ⟨W, rfl, hl, hWo, hm⟩
    refine eg_name (et_yes ⟨fun _ => ?_, fun q => nomatch q⟩)
    refine ev_call (ea_cons (ev_var rfl (ea_cons (ev_var rfl (ea_nil ⟨q, _, rfl, hm.src, by simpa using hw0, by rw [List.length_map]; omega, fun y M3 hy hM3 => ?_⟩)))))
    obtain ⟨s, hs, rfl⟩ := List.mem_map.mp hy
    refine ⟨W ++ [s], by rw [List.map_append]; rfl, by simp [hl], fun s' hs' => ?_, hm.trans hM3⟩
    rcases List.mem_append.mp hs' with h | h
    · exact hWo s' h
    · have : s' = s := by simpa using h
      rw [this]; exact hwo s hs
  · rintro acc m ⟨W, rfl, hl, hWo, hm⟩
    rw [List.length_map] at hl
    exact ⟨by rw [List.length_map, hl]; exact szl (by omega), .inl (k W m ⟨hl, hWo⟩ hm)⟩
theorem live_mem {S : Scn} {b : Nat} {m : Key} : m ∈ live S b ↔ ∃ u ∈ S.us, b ∈ inn u.2 (mng S.nm u) ∧ mng S.nm u = m := by
  unfold live
  rw [lineK_mem, uq_mem]
  unfold metIn
  constructor
  · intro h
    obtain ⟨u, hu, e⟩ := List.mem_map.mp h
    obtain ⟨h1, h2⟩ := List.mem_filter.mp hu
    rw [innK_eq] at h2
    exact ⟨u, h1, of_decide_eq_true h2, e⟩
  · rintro ⟨u, hu, h1, e⟩
    exact List.mem_map.mpr ⟨u, List.mem_filter.mpr ⟨hu, by rw [innK_eq]; exact decide_eq_true h1⟩, e⟩
/-- a naming is right when no binder is named as a thing that is live in it -/
theorem noCatch_live {S : Scn} {xs : List Str} (h : ∀ b m, m ∈ live S b → xs[b]? ≠ some (nmf xs m)) : NoCatch S xs := by
  intro u hu b hb
  exact h b _ (live_mem.mpr ⟨u, hu, hb, rfl⟩)
theorem live_lt {S : Scn} {b : Nat} {i : Int} (h : Sum.inl i ∈ live S b) : ∃ c : Nat, i = c ∧ c < b := by
  obtain ⟨u, hu, hb, e⟩ := live_mem.mp h
  obtain ⟨m, rfl, hm⟩ := mng_in e
  rw [e] at hb
  have := (List.mem_filter.mp hb).2
  have := of_decide_eq_true this
  exact ⟨m, rfl, by omega⟩
theorem live_free {S : Scn} {b : Nat} {s : Str} (h : Sum.inr s ∈ live S b) : s ∈ free S := by
  obtain ⟨u, hu, hb, e⟩ := live_mem.mp h
  unfold free
  exact srt_mem.mpr (uq_mem.mpr (List.mem_filterMap.mpr ⟨u, hu, by rw [e]; rfl⟩))
theorem us_asc {S : Scn} (s : Sound S) {u : Str × List Nat} (hu : u ∈ S.us) : u.2.Pairwise (· < ·) := by
  rw [List.pairwise_iff_getElem]
  intro i j hi hj hij
  have hjm : u.2[j]? = some u.2[j] := List.getElem?_eq_getElem hj
  have am := s.usA u hu j _ hjm
  exact s.arB _ _ am _ (List.mem_iff_getElem?.mpr ⟨i, by rw [List.getElem?_take, if_pos hij, List.getElem?_eq_getElem hi]⟩)
def W_law_is_right : Fw := fun ds M P => ∃ (t : Tr) (p : Addr) (X Y : D) (b k : Bool) (xs : List Str), ds = [.ref p, .sq k (xs.map D.str)] ∧ TmOk t ∧ PgM M p t X Y b ∧ NamOk t xs ∧ P (.bl true) M
def N_law_is_right : List Str := ["_law_page_here", "_law_naming", "_law_name", "_law_within", "_law_meant", "_law_own", "_law_there", "_law_binder"]
def P_law_is_right : List Str := ["_law_page_here", "_law_naming"]
theorem sc_law_is_right : FnScope N_law_is_right P_law_is_right (defScope s_law_is_right) := ⟨rfl, rfl, rfl, by decide +kernel, rfl, by decide +kernel, by decide +kernel⟩
theorem h_law_is_right {z : Cz} {mg : Str → Option Value} {base : Heap} {CF CT : Addr} (G : Gf z mg CF CT) (Dd : Df z mg "_law_is_right" s_law_is_right) (H_law_named : Has z mg base "_law_named" P_law_named 1 W_law_named) : Has z mg base "_law_is_right" P_law_is_right (1 + 1) (W_law_is_right) := by
  refine okDf Dd sc_law_is_right (fun _ _ _ _ _ _ us hl => match us, hl with | [_, _], _ => rfl) (fun ds M P hw => ?_) (fun f cdv A outer s H E hr ds M P hw => ?_)
  · obtain ⟨t, p, X, Y, b, k, xs, rfl, _⟩ := hw
    rfl
  obtain ⟨t, p, X, Y, b, kk, xs, rfl, ht, hp, ⟨hl, hx, hc⟩, k⟩ := hw
  refine ⟨_, (pss_cons (ps_for PassesOwn.never rfl (zi_seq z (pe_dget (hu_of hr) (pv 0) pe_str (fun _ _ => rfl))) (zg_unl (n := 3) z (pgs_cons (pg_name (i := 2) sc_law_is_right.nd rfl (.inl rfl)) (pgs_cons (pg_name (i := 3) sc_law_is_right.nd rfl (.inl rfl)) (pgs_cons (pg_name (i := 4) sc_law_is_right.nd rfl (.inl rfl)) pgs_nil)))) (pss_cons (ps_set (i := 5) sc_law_is_right.nd rfl (.inr rfl) (px_call H_law_named (hr.mono (by omega)) rfl (pa_cons (pv 0) (pa_cons (pv 1) (pa_cons (pv 4) pa_nil))))) (pss_cons (ps_setLc (i := 6) (own := [("_law_binder", 7)]) rfl sc_law_is_right.nd rfl rfl (sw_true rfl rfl rfl (by decide +kernel)) (zi_seq z (pv 3)) (blkOk_by (N := N_law_is_right) (sc := defScope s_law_is_right) (by decide +kernel)) (fun _ _ _ _ _ => (pg_name (i := 7) sc_law_is_right.nd rfl (.inl rfl))) (fun _ _ _ _ _ => (pts_one (pt_cmpR (zo_eq z hr) (zx_ix z (pv 1) (pv 7)) (pv 5) (nomark _)))) (fun _ _ _ _ _ => (pv 7))) (pss_one (ps_if (pt_cmpR (zo_ne z hr) (pe_ifExp (pt_cmpR (zo_ne z hr) (pv 6) (pe_lst pa_nil) (nomark _)) (zx_ix z (pv 6) (pe_un ox_neg pe_int)) (pv 5)) (pv 4) (nomark _)) (pss_one (ps_ret pe_bl)) pss_nil))))) (pss_one (ps_ret pe_bl))), ?_⟩
  have h6 := nmN t
  have hb6 := ht.2.2
  have snd := sound_scn ht.1
  refine s_seq (s_for (js := [2, 3, 4]) (ei_seq (ev_pg rfl hp pv_uses ⟨_, .q, fun i γ m => ∃ c2 c3 c4 c5 c6 c7, γ = [some (.ref p), some (.sq kk (xs.map D.str)), c2, c3, c4, c5, c6, c7] ∧ m = M, ⟨_, _, _, _, _, _, rfl, rfl⟩, fun _ _ _ _ _ => .q, ?_, ?_⟩)))
  · rintro i x γ m hx' ⟨c2, c3, c4, c5, c6, c7, rfl, rfl⟩
    rw [List.getElem?_map] at hx'
    cases qu : (scn t).us[i]? with
    | none => rw [qu] at hx'; cases hx'
    | some u =>
      rw [qu] at hx'
      cases hx'
      have hu := List.mem_of_getElem? qu
      unfold dUse
      refine eg_unl3 (s_seq (s_set (ev_call (ea_cons (ev_var rfl (ea_cons (ev_var rfl (ea_cons (ev_var rfl (ea_nil ⟨_, _, xs, mng (scn t).nm u, rfl, .q, mng_ok snd hu hl, ?_⟩))))))))))
      refine s_seq (s_set ?_)
      refine ev_lcX [7] (fun _ h => h) u.2 (fun b => D.int (b : Nat)) (fun b => decide (xs[b]? = some (nmf xs (mng (scn t).nm u)))) (fun b => D.int (b : Nat)) (ei_seq (ev_var rfl ⟨_, .q, rfl, szl (by have := us_len ht.2.1 hu; omega), .q, ?_, ?_, .inl ?_⟩))
      · intro j b hj
        have hbl : b < xs.length := by rw [hl]; exact us_lt snd hu (List.mem_of_getElem? hj)
        refine eg_name ⟨rfl, et_test (ev_op (ev_op (ev_var rfl (ev_var rfl ⟨_, rfl, .inl ⟨_, .str xs[b], .q, atI_nat b (by rw [List.getElem?_map, List.getElem?_eq_getElem hbl]; rfl), ?_⟩⟩))))⟩
        refine ev_var rfl (g_eqS ⟨_, rfl, ?_, rfl, fun _ => ev_var rfl ⟨rfl, rfl⟩⟩)
        rw [List.getElem?_eq_getElem hbl]
        simp
      · rw [List.length_map]; exact Nat.le_trans (List.length_filter_le _ _) (szl (by have := us_len ht.2.1 hu; omega))
      have hcu := hc u hu
      generalize hth : u.2.filter (fun b => decide (xs[b]? = some (nmf xs (mng (scn t).nm u)))) = there
      have hres : (match there.getLast? with | some b => Sum.inl (b : Int) | none => Sum.inr (nmf xs (mng (scn t).nm u))) = mng (scn t).nm u := by
        cases q : mng (scn t).nm u with
        | inr s =>
          have : there = [] := by
            rw [← hth, List.filter_eq_nil_iff]
            intro b hb h
            have h1 := of_decide_eq_true h
            rw [q] at hcu h1
            exact hcu b hb h1
          rw [this]
          rfl
        | inl i =>
          obtain ⟨m, rfl, hm⟩ := mng_in q
          have hml : m < xs.length := by rw [hl]; exact us_lt snd hu hm
          have hnm : nmf xs (.inl (m : Nat)) = xs[m] := by
            show xs.getD (Int.toNat (m : Nat)) "" = xs[m]
            rw [Int.toNat_natCast, List.getD_eq_getElem?_getD, List.getElem?_eq_getElem hml]
            rfl
          have hin : m ∈ there := by
            rw [← hth]
            refine List.mem_filter.mpr ⟨hm, decide_eq_true ?_⟩
            rw [q, hnm, List.getElem?_eq_getElem hml]
          have hasc : there.Pairwise (· < ·) := by rw [← hth]; exact (us_asc snd hu).sublist List.filter_sublist
          have hle : ∀ b ∈ there, b ≤ m := by
            intro b hb
            rcases Nat.lt_or_ge m b with h | h
            · exfalso
              rw [← hth] at hb
              obtain ⟨h1, h2⟩ := List.mem_filter.mp hb
              have h3 := of_decide_eq_true h2
              refine hcu b ?_ h3
              rw [q]
              exact List.mem_filter.mpr ⟨h1, decide_eq_true (by omega)⟩
            · exact h
          have hlast : there.getLast? = some m := by
            cases ql : there.getLast? with
            | none => rw [List.getLast?_eq_none_iff] at ql; rw [ql] at hin; cases hin
            | some b =>
              have hb := hle b (List.mem_of_getLast? ql)
              obtain ⟨j, hj, ej⟩ := List.getElem_of_mem hin
              rw [List.getLast?_eq_getElem?] at ql
              obtain ⟨hlt, eb⟩ := List.getElem?_eq_some_iff.mp ql
              rw [List.pairwise_iff_getElem] at hasc
              rcases Nat.lt_or_ge j (there.length - 1) with h | h
              · have := hasc j (there.length - 1) hj hlt h
                omega
              · have : j = there.length - 1 := by omega
                subst this
                rw [← eb, ej]
          rw [hlast]
      have fin : ∀ d : D, d = kD (mng (scn t).nm u) → True := fun _ _ => trivial
      refine s_if (et_test (ev_op (ev_if (et_test (ev_neE (ev_var rfl ⟨_, rfl, ⟨0, by decide, fun x hx => ?_⟩, _, rfl, fun h1 => ?_, fun h1 => ?_⟩))))))
      · obtain ⟨y, _, rfl⟩ := List.mem_map.mp hx
        exact Da.int
      · have hne : there ≠ [] := by intro q; rw [q] at h1; simp at h1
        refine ev_op (ev_var rfl (ev_un (ev_int ⟨1, rfl, _, rfl, .inl ⟨_, _, .q, atI_last (d := kD (mng (scn t).nm u)) ?_, ?_⟩⟩)))
        · rw [List.getLast?_map]
          rw [← hres]
          cases q : there.getLast? with
          | none => exact absurd (List.getLast?_eq_none_iff.mp q) hne
          | some b => rfl
        · refine ev_var rfl ⟨true, ?_, _, rfl, (fun q => nomatch q), fun _ => s_next ⟨_, _, _, _, _, _, rfl, rfl⟩⟩
          cases mng (scn t).nm u with
          | inl i => exact .sc rfl rfl rfl (by show decide (V.int i = V.int i) = true; simp)
          | inr s => exact .sc rfl rfl rfl (by show decide (V.str s = V.str s) = true; simp)
      · have hne : there = [] := by
          cases q : there with
          | nil => rfl
          | cons b bs => rw [q] at h1; simp at h1
        rw [hne] at hres
        refine ev_var rfl (ev_var rfl ⟨true, ?_, _, rfl, (fun q => nomatch q), fun _ => s_next ⟨_, _, _, _, _, _, rfl, rfl⟩⟩)
        rw [← hres]
        exact .sc rfl rfl rfl (by show decide (V.str _ = V.str _) = true; rw [hres]; simp)
  · rintro γ m ⟨c2, c3, c4, c5, c6, c7, rfl, rfl⟩
    exact s_ret (ev_bl k)
end Lv

set_option Elab.async false
set_option linter.all false
set_option maxRecDepth 100000
set_option maxHeartbeats 4000000
set_option pp.maxSteps 400
set_option pp.deepTerms false
namespace Lv
open PySem PySem.Spec PyProof.Rows L2 StX
local macro_rules
  | `(tactic| walk_at "lv1") => `(tactic| with_reducible (first
    | refine s_set ?_ | refine s_ret ?_ | refine s_if ?_ | refine s_drop ?_ | refine s_next ?_ | refine s_par ?_ | refine s_par3 ?_ | refine s_subL ?_ | refine s_unl2 ?_ | refine s_tup2 ?_ | refine eg_unl2 ?_ | refine eg_unl3 ?_ | refine eg_tup2 ?_
    | refine ev_var rfl ?_ | refine ev_int ?_ | refine ev_str ?_ | refine ev_bl ?_ | refine ev_non ?_ | refine ev_ref ?_
    | refine ev_lst0 ?_ | refine ev_eqE ?_ | refine ev_neE ?_ | refine ev_op ?_ | refine ev_un ?_ | refine ev_isiLT ?_ | refine ev_isi ?_ | refine ev_cb ?_ | refine ev_chain ?_ | refine ev_andV ?_ | refine ev_orV ?_ | refine ev_notV ?_ | refine ev_if ?_ | refine ev_tup ?_ | refine ev_call ?_
    | refine et_and ?_ | refine et_or ?_ | refine et_not ?_ | refine et_test ?_ | refine et_b ?_ | refine et_yes ?_
    | refine ea_cons ?_ | refine ea_nil ?_
    | refine g_int2 ?_ | refine g_bl ?_ | refine g_int ?_ | refine g_addI ?_ | refine g_eqI ?_ | refine g_eqSt ?_ | refine g_eqSf (by decide +kernel) ?_ | refine g_eqS ?_ | refine g_eqIS ?_ | refine g_eqSI ?_ | refine g_eqNS ?_ | refine g_isn ?_
    | refine g_par ?_ | refine g_par3 ?_ | refine g_neg ?_
    | refine g_ifT ?_ | refine g_ifNT ?_ | refine g_ifNF ?_ | refine g_ifF ?_ | refine g_ifD ?_ ?_ | refine g_ifDN ?_ ?_
    | refine eg_name ?_ | refine eg_setL ?_))
local macro_rules
  | `(tactic| walk_at "lvM") => `(tactic| first | assumption | exact mupd_same)
local macro_rules
  | `(tactic| walk_at "lvW") => `(tactic| with_unfolding_all rfl)
local macro_rules
  | `(tactic| walk_at "lvA") => `(tactic| first | with_unfolding_all rfl | with_unfolding_all exact atI_nat 0 rfl | with_unfolding_all exact atI_nat 1 rfl)
local macro_rules
  | `(tactic| walk_at "lv2") => `(tactic| with_reducible (first
    | refine ⟨_, _, (by walk_at "lvW"), kb_ii, ?_⟩ | refine ⟨_, _, (by walk_at "lvW"), kb_ib, ?_⟩ | refine ⟨_, _, (by walk_at "lvW"), kb_is, ?_⟩ | refine ⟨_, _, (by walk_at "lvW"), kb_ss, ?_⟩ | refine ⟨_, _, (by walk_at "lvW"), kb_tt, ?_⟩
    | refine .inl ⟨_, _, rfl, IsS.q, ?_⟩ | refine .inl ⟨_, _, rfl, IsS.r (by walk_at "lvM"), ?_⟩ | refine .inl ⟨_, _, rfl, IsS.sc, ?_⟩
    | refine .inl ⟨_, _, IsS.q, (by walk_at "lvA"), ?_⟩ | refine .inl ⟨_, _, IsS.r (by walk_at "lvM"), (by walk_at "lvA"), ?_⟩
    | refine .inl (g_int2 (And.intro (CMul.l (by omega) (by omega)) ?_)) | refine .inl (g_int2 (And.intro (CMul.r (by omega) (by omega)) ?_))
    | refine And.intro (CDiv.mk (by omega) (by omega)) ?_ | refine And.intro (by omega) ?_ | refine And.intro (Nat.le_of_ble_eq_true (by walk_at "lvW")) ?_
    | refine .inl ⟨_, _, rfl, ?_⟩
    | refine .inl ⟨_, rfl, ?_⟩ | refine .inr ⟨_, rfl, ?_⟩
    | refine ⟨_, _, _, _, rfl, (by walk_at "lvM"), rfl, (by walk_at "lvW"), ?_⟩
    | refine ⟨_, _, rfl, IsL.q, ?_⟩
    | refine ⟨_, rfl, .inl ⟨_, _, IsS.q, (by walk_at "lvA"), ?_⟩⟩))
local macro_rules
  | `(tactic| walk_at "lvm") => `(tactic| repeat' (first | walk_at "lv1" | (with_reducible refine s_seq ?_) | walk_at "lv2" | dsimp only))
local macro_rules
  | `(tactic| walk_at "lve") => `(tactic| repeat' (first | walk_at "lv1" | (with_reducible refine ev_lst ?_) | walk_at "lv2" | dsimp only))
local macro_rules
  | `(tactic| walk_at "lv") => `(tactic| repeat' (first | walk_at "lv1" | (with_reducible refine ev_lst ?_) | (with_reducible refine s_seq ?_) | walk_at "lv2" | dsimp only))
local macro_rules
  | `(tactic| walk_at "lve0") => `(tactic| repeat' (first
    | (with_reducible first | refine ev_var rfl ?_ | refine ev_int ?_ | refine ev_str ?_ | refine et_test ?_ | refine ev_eqE ?_ | refine ev_op ?_ | refine g_bl ?_ | refine g_eqI ?_ | refine g_eqSt ?_ | refine g_eqSf (by decide +kernel) ?_ | refine g_eqS ?_ | refine g_int ?_ | refine g_ifT ?_ | refine g_ifF ?_ | refine g_ifD ?_ ?_) | walk_at "lv2" | dsimp only))
local macro_rules
  | `(tactic| walk_at "lvx") => `(tactic| repeat' (first | (refine fun hx => absurd hx ?_; (with_reducible fail_if_success assumption); simp; done) | (refine fun _ => ?_; walk_at "lv")))
theorem filt_len (L ks : List Str) (hn : L.Nodup) : (L.filter fun s => decide (s ∈ ks)).length ≤ ks.length := by
  induction L generalizing ks with
  | nil => simp
  | cons x L ih =>
    rw [List.nodup_cons] at hn
    by_cases h : x ∈ ks
    · rw [List.filter_cons_of_pos (by simpa using h), List.length_cons]
      have e : (L.filter fun s => decide (s ∈ ks)) = L.filter fun s => decide (s ∈ ks.erase x) := by
        apply List.filter_congr
        intro s hs
        have hne : s ≠ x := fun q => hn.1 (q ▸ hs)
        exact decide_eq_decide.mpr (List.mem_erase_of_ne hne).symm
      rw [e]
      have := ih (ks.erase x) hn.2
      rw [List.length_erase_of_mem h] at this
      have := List.length_pos_of_mem h
      omega
    · rw [List.filter_cons_of_neg (by simpa using h)]
      exact ih ks hn.2
theorem exists_new {L ks : List Str} (hn : L.Nodup) (hl : ks.length < L.length) : ∃ s ∈ L, s ∉ ks := by
  apply Classical.byContradiction
  intro h
  have : (L.filter fun s => decide (s ∈ ks)) = L := by
    rw [List.filter_eq_self]
    intro s hs
    apply decide_eq_true
    exact Classical.byContradiction fun q => h ⟨s, hs, q⟩
  have h2 := filt_len L ks hn
  rw [this] at h2
  omega
theorem freshL_eq (sh : List Str) : freshL sh = freshW (sh.map some) := by
  unfold freshL freshW
  apply List.filter_congr
  intro s _
  congr 1
  refine decide_eq_decide.mpr ⟨fun h => List.mem_map.mpr ⟨s, h, rfl⟩, fun h => ?_⟩
  obtain ⟨a, h1, h2⟩ := List.mem_map.mp h
  cases h2
  exact h1
theorem freshL_len (sh : List Str) : 78 ≤ (freshL sh).length + sh.length := by
  have := fresh_len (sh.map some)
  rw [freshL_eq]
  rw [List.length_map] at this
  exact this
theorem freshL_nodup (sh : List Str) : (freshL sh).Nodup := by
  have hn : wl.Nodup := by decide +kernel
  exact hn.sublist List.filter_sublist
theorem freshL_ok {sh : List Str} {s : Str} (h : s ∈ freshL sh) : OkName s ∧ s ∉ sh := by
  obtain ⟨h1, h2⟩ := List.mem_filter.mp h
  have hall : ∀ s ∈ wl, OkName s := by decide +kernel
  exact ⟨hall s h1, by simpa using h2⟩
theorem cut_some {xs : List D} {k : Int} (h : 0 < k) (hx : 0 < xs.length) : 0 < (cutD xs none (some k)).length ∧ ∀ x ∈ cutD xs none (some k), x ∈ xs := by
  unfold cutD
  refine ⟨?_, fun x hx => List.mem_of_mem_drop (List.mem_of_mem_take hx)⟩
  rw [List.length_take, List.length_drop]
  simp only [HT.sIx]
  split <;> simp <;> omega
def W_law_right_naming : Fw := fun ds M P => ∃ (t : Tr) (p q : Addr) (X Y : D) (b : Bool) (more : Nat), ds = [.ref q, .ref p, .int (more : Nat)] ∧ TmOk t ∧ PgM M p t X Y b ∧ Src M q ∧ p ≠ q ∧ more ≤ 2 ∧ ∀ xs M', NamOk t xs → SrcR M q M' → P (.sq false (xs.map D.str)) M'
theorem nmf_app {xs : List Str} {s : Str} {m : Key} (h : mOk xs.length m) : nmf (xs ++ [s]) m = nmf xs m := by
  cases m with
  | inr w => rfl
  | inl i =>
    obtain ⟨b, rfl, hb⟩ := h
    show (xs ++ [s]).getD (Int.toNat (b : Nat)) "" = xs.getD (Int.toNat (b : Nat)) ""
    rw [Int.toNat_natCast, List.getD_eq_getElem?_getD, List.getD_eq_getElem?_getD, List.getElem?_append_left hb]
theorem live_len {S : Scn} {b n : Nat} (h : S.us.length ≤ n) : (live S b).length ≤ n := by
  have e : ∀ ks : List Key, (ks.filterMap intOf).length + (ks.filterMap strOf).length = ks.length := by
    intro ks
    induction ks with
    | nil => rfl
    | cons x ks ih =>
      cases x with
      | inl i => rw [List.filterMap_cons_some (f := intOf) (b := i) rfl, List.filterMap_cons_none (f := strOf) rfl, List.length_cons, List.length_cons]; omega
      | inr i => rw [List.filterMap_cons_some (f := strOf) (b := i) rfl, List.filterMap_cons_none (f := intOf) rfl, List.length_cons, List.length_cons]; omega
  unfold live lineK
  rw [List.length_append, List.length_map, List.length_map, isort_len, srt_len]
  have h1 := e (uq (metIn S S.us b))
  have h2 := uq_len ((uq (metIn S S.us b)).filterMap strOf)
  have h3 := uq_len (metIn S S.us b)
  have h4 : (metIn S S.us b).length ≤ S.us.length := by
    unfold metIn
    rw [List.length_map]
    exact List.length_filter_le _ _
  omega
theorem live_mOk {S : Scn} {b : Nat} {m : Key} (h : m ∈ live S b) : mOk b m := by
  cases m with
  | inr w => exact trivial
  | inl i => obtain ⟨c, rfl, hc⟩ := live_lt h; exact ⟨c, rfl, hc⟩
theorem mOk_mono {m : Key} {a b : Nat} (h : mOk a m) (l : a ≤ b) : mOk b m := by
  cases m with
  | inr w => exact trivial
  | inl i => obtain ⟨c, rfl, hc⟩ := h; exact ⟨c, rfl, Nat.lt_of_lt_of_le hc l⟩
def N_law_right_naming : List Str := ["_law_source", "_law_page_here", "_law_more", "_law_live_here", "_law_found", "_law_spare", "_law_binder", "_law_shut", "_law_some", "_law_thing", "_law_name"]
def P_law_right_naming : List Str := ["_law_source", "_law_page_here", "_law_more"]
theorem sc_law_right_naming : FnScope N_law_right_naming P_law_right_naming (defScope s_law_right_naming) := ⟨rfl, rfl, rfl, by decide +kernel, rfl, by decide +kernel, by decide +kernel⟩
theorem h_law_right_naming {z : Cz} {mg : Str → Option Value} {base : Heap} {CF CT : Addr} (G : Gf z mg CF CT) (Dd : Df z mg "_law_right_naming" s_law_right_naming) (H_law_all_live : Has z mg base "_law_all_live" P_law_all_live 4 W_law_all_live) (H_law_wordlist : Has z mg base "_law_wordlist" P_law_wordlist 1 W_law_wordlist) (H_law_free : Has z mg base "_law_free" P_law_free 3 W_law_free) (H_law_named : Has z mg base "_law_named" P_law_named 1 W_law_named) (H_law_one : Has z mg base "_law_one" P_law_one 2 W_on) (H_law_take : Has z mg base "_law_take" P_law_take 1 W_tk) : Has z mg base "_law_right_naming" P_law_right_naming (5 + 1) (W_law_right_naming) := by
  refine okDf Dd sc_law_right_naming (fun _ _ _ _ _ _ us hl => match us, hl with | [_, _, _], _ => rfl) (fun ds M P hw => ?_) (fun f cdv A outer s H E hr ds M P hw => ?_)
  · obtain ⟨t, p, q, X, Y, b, more, rfl, _⟩ := hw
    rfl
  obtain ⟨t, p, q, X, Y, b, more, rfl, ht, hp, hq, hpq, hmore, k⟩ := hw
  refine ⟨_, (pss_cons (ps_asg (pe_tup (pa_cons (px_call H_law_all_live (hr.mono (by omega)) rfl (pa_cons (pv 1) pa_nil)) (pa_cons (pe_lst pa_nil) pa_nil))) (zg_tup (n := 2) z (pgs_cons (pg_name (i := 3) sc_law_right_naming.nd rfl (.inl rfl)) (pgs_cons (pg_name (i := 4) sc_law_right_naming.nd rfl (.inr rfl)) pgs_nil)))) (pss_cons (ps_set (i := 5) sc_law_right_naming.nd rfl (.inl rfl) (px_call H_law_wordlist (hr.mono (by omega)) rfl (pa_cons (pe_op ox_add (pe_op ox_add (pe_callB (zc_len z) rfl G.len boot_len (pa_cons (pe_dget (hu_of hr) (pv 1) pe_str (fun _ _ => rfl)) pa_nil)) pe_int) (pv 2)) (pa_cons (px_call H_law_free (hr.mono (by omega)) rfl (pa_cons (pv 1) pa_nil)) pa_nil)))) (pss_cons (ps_for PassesOwn.never rfl (pi_range1 rfl G.range (pa_cons (pe_callB (zc_len z) rfl G.len boot_len (pa_cons (pe_dget (hu_of hr) (pv 1) pe_str (fun _ _ => rfl)) pa_nil)) pa_nil)) (pg_name (i := 6) sc_law_right_naming.nd rfl (.inl rfl)) (pss_cons (ps_set (i := 7) sc_law_right_naming.nd rfl (.inr rfl) (pe_lc (own := [("_law_thing", 9)]) rfl sc_law_right_naming.nd (zi_seq z (zx_ix z (pv 3) (pv 6))) (blkOk_by (N := N_law_right_naming) (sc := defScope s_law_right_naming) (by decide +kernel)) (fun _ _ _ _ _ => (pg_name (i := 9) sc_law_right_naming.nd rfl (.inl rfl))) (fun _ _ _ _ _ => pts_nil) (fun _ _ _ _ _ => (px_call H_law_named (hr.mono (by omega)) rfl (pa_cons (pv 1) (pa_cons (pv 4) (pa_cons (pv 9) pa_nil))))))) (pss_cons (ps_setLc (i := 8) (own := [("_law_name", 10)]) rfl sc_law_right_naming.nd rfl rfl (sw_true rfl rfl rfl (by decide +kernel)) (zi_seq z (pe_op ox_add (px_call H_law_free (hr.mono (by omega)) rfl (pa_cons (pv 1) pa_nil)) (pv 5))) (blkOk_by (N := N_law_right_naming) (sc := defScope s_law_right_naming) (by decide +kernel)) (fun _ _ _ _ _ => (pg_name (i := 10) sc_law_right_naming.nd rfl (.inl rfl))) (fun _ _ _ _ _ => (pts_one (pt_cmpR (zo_notIn z) (pv 10) (pv 7) (by with_unfolding_all rfl)))) (fun _ _ _ _ _ => (pv 10))) (pss_one (ps_expr (zx_bm z PySem.F.plainAttrs_list PySem.F.slot_list_append PySem.F.type_list_append xm_append (pv 4) (pa_cons (px_call H_law_one (hr.mono (by omega)) rfl (pa_cons (pv 0) (pa_cons (zx_slice z (pv 8) po_none (po_some (pe_op ox_add (pe_op ox_add pe_int (pv 2)) (px_call H_law_take (hr.mono (by omega)) rfl (pa_cons (pv 0) (pa_cons pe_int pa_nil)))))) pa_nil))) pa_nil))))))) (pss_one (ps_ret (pe_callTy (zc_tuple z) rfl G.tuple boot_tuple (pa_cons (pv 4) pa_nil))))))), ?_⟩
  have h6 := nmN t
  have hU := usN ht.2.1
  have hb6 := ht.2.2
  have snd := sound_scn ht.1
  have hfl := free_len (S := scn t)
  have hn6 : (scn t).nm.length ≤ 6 := by omega
  refine EVS.forget ?_
  refine s_seq (s_tup2 (ev_tup (ea_cons (ev_call (ea_cons (ev_var rfl (ea_nil ?_)))))))
  refine ⟨t, p, X, Y, b, rfl, ht, hp, ?_⟩
  refine ea_cons (ev_lst0 fun r hr => ea_nil ⟨Nat.le_of_ble_eq_true rfl, _, _, rfl, ?_⟩)
  have hrq : r ≠ q := hq.ne hr
  have hpr : p ≠ r := fun e => by subst e; rw [show M p = _ from hp] at hr; cases hr
  have hpg : ∀ {M1 : Mem} {o : MO}, SrcR M q M1 → PgM (mupd M1 r o) p t X Y b := fun s => by
    unfold PgM
    rw [mupd_ne hpr]
    exact hp.src s hpq
  have hself := hq.refl
  refine s_seq (s_set (ev_call (ea_cons (ev_op (ev_op ?_)))))
  refine ev_cb (ea_cons (ev_pg rfl (hpg hself) pv_names (ea_nil (.inl ⟨_, _, rfl, .q, ev_int ?_⟩))))
  rw [List.length_map]
  refine .inl ⟨_, _, rfl, rfl, ev_var rfl (.inl ⟨_, _, rfl, rfl, ?_⟩)⟩
  refine ea_cons (ev_call (ea_cons (ev_var rfl (ea_nil ⟨t, p, X, Y, b, rfl, ht, hpg hself, ?_⟩))))
  refine ea_nil ⟨(scn t).nm.length + 2 + more, free (scn t), by simp, ?_⟩
  generalize hsp : (freshL (free (scn t))).take ((scn t).nm.length + 2 + more) = sp
  have hspl : sp.length = (scn t).nm.length + 2 + more := by
    rw [← hsp, List.length_take]
    have := freshL_len (free (scn t))
    omega
  have hspn : sp.Nodup := by rw [← hsp]; exact (freshL_nodup _).sublist (List.take_sublist _ _)
  have hspo : ∀ s ∈ sp, OkName s ∧ s ∉ free (scn t) := fun s hs => by rw [← hsp] at hs; exact freshL_ok (List.mem_of_mem_take hs)
  refine ⟨by rw [List.length_map, hspl]; exact szl (by omega), .inl ?_⟩
  refine s_seq (s_for (js := [6]) (ei_rng (ea_cons (ev_cb (ea_cons (ev_pg rfl (hpg hself) pv_names (ea_nil (.inl ⟨_, _, rfl, .q, ?_⟩))))))))
  rw [List.length_map]
  refine ea_nil ⟨(scn t).nm.length, rfl, by omega, by omega, ?_⟩
  have hrl : (rgD 0 ((scn t).nm.length : Int).toNat).length = (scn t).nm.length := by simp [rgD]
  refine ⟨fun i γ m => ∃ c6 c7 c8 c9 c10 M1, ∃ xs : List Str, γ = [some (.ref q), some (.ref p), some (.int (more : Nat)), some (dLv (LV (scn t))), some (.ref r), some (.sq true (sp.map D.str)), c6, c7, c8, c9, c10] ∧ m = mupd M1 r (.lst (xs.map D.str)) ∧ SrcR M q M1 ∧ xs.length = i ∧ (∀ x ∈ xs, OkName x) ∧ (∀ c m, c < i → m ∈ live (scn t) c → xs[c]? ≠ some (nmf xs m)), ⟨_, _, _, _, _, M, [], rfl, rfl, hself, rfl, (fun _ h => nomatch h), fun _ _ h => absurd h (Nat.not_lt_zero _)⟩, fun _ _ _ _ _ => trivial, ?_, ?_⟩
  · rintro i x γ m hx ⟨c6, c7, c8, c9, c10, M1, xs, rfl, rfl, hM1, hxl, hxo, hxc⟩
    have hi : i < (scn t).nm.length := by have := (List.getElem?_eq_some_iff.mp hx).1; rw [hrl] at this; exact this
    have hx2 : x = .int (i : Nat) := by
      rw [show ((scn t).nm.length : Int).toNat = (scn t).nm.length from Int.toNat_natCast _, rgD_map, List.getElem?_map, List.getElem?_range hi] at hx
      cases hx; rfl
    subst hx2
    have hlv : i < (LV (scn t)).length := by rw [LV_len]; exact hi
    have hlvi : (LV (scn t)).getD i [] = live (scn t) i := by
      rw [List.getD_eq_getElem?_getD]
      unfold LV
      rw [List.getElem?_map, List.getElem?_range hi]
      rfl
    have hlz : (live (scn t) i).length ≤ 25 := live_len hU
    refine eg_name (s_seq (s_set ?_))
    refine ev_lcA [9] (fun _ h => h) (live (scn t) i) kD (fun m => D.str (nmf xs m)) (ei_seq (ev_op (ev_var rfl (ev_var rfl ⟨_, rfl, .inl ⟨_, _, .q, atI_nat i (lv_at hlv), ?_⟩⟩))))
    rw [hlvi]
    refine ⟨_, .q, rfl, szl (by omega), .q, ?_, ?_, .inl ?_⟩
    · intro j m hj
      refine eg_name ⟨rfl, ev_call (ea_cons (ev_var rfl (ea_cons (ev_var rfl (ea_cons (ev_var rfl (ea_nil ⟨_, _, xs, m, rfl, .r mupd_same, ?_, rfl, rfl⟩)))))))⟩
      rw [hxl]; exact live_mOk (List.mem_of_getElem? hj)
    · rw [List.length_map]; exact szl (by omega)
    refine s_seq (s_set ?_)
    generalize hsh : (live (scn t) i).map (nmf xs) = sh
    have hshm : (live (scn t) i).map (fun m => D.str (nmf xs m)) = sh.map D.str := by rw [← hsh, List.map_map]; rfl
    rw [hshm]
    have hex : ∃ s ∈ sp, s ∉ sh := by
      obtain ⟨s, hs, hn⟩ := exists_new (ks := xs) hspn (by omega)
      refine ⟨s, hs, fun h => ?_⟩
      rw [← hsh] at h
      obtain ⟨m, hm, e⟩ := List.mem_map.mp h
      cases m with
      | inr w => cases e; exact (hspo _ hs).2 (live_free hm)
      | inl j =>
        obtain ⟨c, rfl, hc⟩ := live_lt hm
        have hcl : c < xs.length := by omega
        have : nmf xs (.inl (c : Nat)) = xs[c] := by
          show xs.getD (Int.toNat (c : Nat)) "" = xs[c]
          rw [Int.toNat_natCast, List.getD_eq_getElem?_getD, List.getElem?_eq_getElem hcl]
          rfl
        rw [this] at e
        exact hn (e ▸ List.getElem_mem hcl)
    refine ev_lcX [10] (fun _ h => h) (free (scn t) ++ sp) D.str (fun s => !decide (s ∈ sh)) D.str (ei_seq (ev_op (ev_call (ea_cons (ev_var rfl (ea_nil ⟨t, p, X, Y, b, rfl, ht, hpg hM1, ?_⟩))))))
    refine ev_var rfl (.inr (.inr ⟨_, _, .q, .q, ?_, .inl ?_⟩))
    · rw [List.length_append, List.length_map, List.length_map]; exact szl (by omega)
    refine ⟨_, .q, by rw [List.map_append], szl (by rw [List.length_append]; omega), .q, ?_, ?_, .inl ?_⟩
    · intro j s hj
      refine eg_name ⟨rfl, et_test (ev_op (ev_var rfl (ev_var rfl ⟨_, .q, rfl, flat_strs _, _, rfl, ?_, rfl, fun _ => ev_var rfl ⟨rfl, rfl⟩⟩)))⟩
      rw [inD_str]
    · rw [List.length_map]; exact Nat.le_trans (List.length_filter_le _ _) (szl (by rw [List.length_append]; omega))
    generalize hch : (free (scn t) ++ sp).filter (fun s => !decide (s ∈ sh)) = ch
    have hch0 : 0 < ch.length := by
      obtain ⟨s, h1, h2⟩ := hex
      apply List.length_pos_of_mem (a := s)
      rw [← hch]
      exact List.mem_filter.mpr ⟨List.mem_append_right _ h1, by simpa using h2⟩
    have hchl : ch.length ≤ 100 := by rw [← hch]; exact Nat.le_trans (List.length_filter_le _ _) (by rw [List.length_append]; omega)
    have hcho : ∀ s ∈ ch, OkName s ∧ s ∉ sh := by
      intro s hs
      rw [← hch] at hs
      obtain ⟨h1, h2⟩ := List.mem_filter.mp hs
      refine ⟨?_, by simpa using h2⟩
      rcases List.mem_append.mp h1 with h | h
      · exact free_ok2 snd s h
      · exact (hspo s h).1
    refine s_drop (ev_bm (ev_var rfl ⟨⟨_, .inl ⟨r, rfl, mupd_same⟩⟩, ea_cons (ev_call (ea_cons (ev_var rfl (ea_cons ?_))))⟩))
    refine ev_sl (ev_var rfl (eo_none (eo_some (ev_op (ev_op (ev_int (ev_var rfl (.inl ⟨_, _, rfl, rfl, ?_⟩))))))))
    refine ev_call (ea_cons (ev_var rfl (ea_cons (ev_int (ea_nil ⟨q, 3, rfl, hM1.src.upd hrq, by decide, by decide, fun rr M2 hr0 hr3 hM2 => ?_⟩)))))
    refine .inl ⟨_, _, rfl, rfl, _, rfl, _, .q, ?_⟩
    obtain ⟨hc1, hc2⟩ := cut_some (xs := ch.map D.str) (k := 1 + (more : Int) + rr) (by omega) (by rw [List.length_map]; exact hch0)
    have hcl : (cutD (ch.map D.str) none (some (1 + (more : Int) + rr))).length ≤ 100 := by
      unfold cutD
      rw [List.length_take, List.length_drop, List.length_map]; omega
    refine ⟨szl (by omega), .inl ?_⟩
    refine ea_nil ⟨q, _, rfl, hM2.src, hc1, by omega, fun y M3 hy hM3 => ?_⟩
    obtain ⟨s, hs, rfl⟩ := List.mem_map.mp (hc2 y hy)
    obtain ⟨M4, hM4, rfl⟩ := (hM2.trans hM3).swap hrq
    refine ea_nil ⟨r, _, rfl, mupd_same, _, rfl, by rw [List.length_map]; simp only [sizeLine]; omega, ?_⟩
    refine ⟨_, _, _, _, _, M4, xs ++ [s], rfl, by rw [mupd_mupd, List.map_append]; rfl, hM1.trans hM4, by simp [hxl], fun x hx => ?_, fun c m hc hm => ?_⟩
    · rcases List.mem_append.mp hx with h | h
      · exact hxo x h
      · have : x = s := by simpa using h
        rw [this]; exact (hcho s hs).1
    · have hmo := live_mOk hm
      rw [nmf_app (mOk_mono hmo (by omega))]
      rcases Nat.lt_or_ge c i with h | h
      · rw [List.getElem?_append_left (by omega)]
        exact hxc c m h hm
      · have : c = i := by omega
        subst this
        rw [List.getElem?_append_right (by omega), show c - xs.length = 0 from by omega]
        intro e
        have e2 : s = nmf xs m := by simpa using e
        refine (hcho s hs).2 ?_
        rw [← hsh, e2]
        exact List.mem_map.mpr ⟨m, hm, rfl⟩
  · rintro γ m ⟨c6, c7, c8, c9, c10, M1, xs, rfl, rfl, hM1, hxl, hxo, hxc⟩
    rw [hrl] at hxl hxc
    refine s_ret (ev_cb (ea_cons (ev_var rfl (ea_nil ⟨_, _, rfl, .r mupd_same, by rw [List.length_map]; exact szl (by omega), M1, mupd_ex (by rw [hM1.get hrq]; exact hr), k xs M1 ⟨hxl, hxo, noCatch_live fun b m hm => ?_⟩ hM1⟩))))
    rcases Nat.lt_or_ge b (scn t).nm.length with h | h
    · exact hxc b m h hm
    · rw [List.getElem?_eq_none (by omega)]
      exact fun e => nomatch e
end Lv

set_option Elab.async false
set_option linter.all false
set_option maxRecDepth 100000
set_option maxHeartbeats 4000000
set_option pp.maxSteps 400
set_option pp.deepTerms false
namespace Lv
open PySem PySem.Spec PyProof.Rows L2 StX
local macro_rules
  | `(tactic| walk_at "lv1") => `(tactic| with_reducible (first
    | refine s_set ?_ | refine s_ret ?_ | refine s_if ?_ | refine s_drop ?_ | refine s_next ?_ | refine s_par ?_ | refine s_par3 ?_ | refine s_subL ?_ | refine s_unl2 ?_ | refine s_tup2 ?_ | refine eg_unl2 ?_ | refine eg_unl3 ?_ | refine eg_tup2 ?_
    | refine ev_var rfl ?_ | refine ev_int ?_ | refine ev_str ?_ | refine ev_bl ?_ | refine ev_non ?_ | refine ev_ref ?_
    | refine ev_lst0 ?_ | refine ev_eqE ?_ | refine ev_neE ?_ | refine ev_op ?_ | refine ev_un ?_ | refine ev_isiLT ?_ | refine ev_isi ?_ | refine ev_cb ?_ | refine ev_chain ?_ | refine ev_andV ?_ | refine ev_orV ?_ | refine ev_notV ?_ | refine ev_if ?_ | refine ev_tup ?_ | refine ev_call ?_
    | refine et_and ?_ | refine et_or ?_ | refine et_not ?_ | refine et_test ?_ | refine et_b ?_ | refine et_yes ?_
    | refine ea_cons ?_ | refine ea_nil ?_
    | refine g_int2 ?_ | refine g_bl ?_ | refine g_int ?_ | refine g_addI ?_ | refine g_eqI ?_ | refine g_eqSt ?_ | refine g_eqSf (by decide +kernel) ?_ | refine g_eqS ?_ | refine g_eqIS ?_ | refine g_eqSI ?_ | refine g_eqNS ?_ | refine g_isn ?_
    | refine g_par ?_ | refine g_par3 ?_ | refine g_neg ?_
    | refine g_ifT ?_ | refine g_ifNT ?_ | refine g_ifNF ?_ | refine g_ifF ?_ | refine g_ifD ?_ ?_ | refine g_ifDN ?_ ?_
    | refine eg_name ?_ | refine eg_setL ?_))
local macro_rules
  | `(tactic| walk_at "lvM") => `(tactic| first | assumption | exact mupd_same)
local macro_rules
  | `(tactic| walk_at "lvW") => `(tactic| with_unfolding_all rfl)
local macro_rules
  | `(tactic| walk_at "lvA") => `(tactic| first | with_unfolding_all rfl | with_unfolding_all exact atI_nat 0 rfl | with_unfolding_all exact atI_nat 1 rfl)
local macro_rules
  | `(tactic| walk_at "lv2") => `(tactic| with_reducible (first
    | refine ⟨_, _, (by walk_at "lvW"), kb_ii, ?_⟩ | refine ⟨_, _, (by walk_at "lvW"), kb_ib, ?_⟩ | refine ⟨_, _, (by walk_at "lvW"), kb_is, ?_⟩ | refine ⟨_, _, (by walk_at "lvW"), kb_ss, ?_⟩ | refine ⟨_, _, (by walk_at "lvW"), kb_tt, ?_⟩
    | refine .inl ⟨_, _, rfl, IsS.q, ?_⟩ | refine .inl ⟨_, _, rfl, IsS.r (by walk_at "lvM"), ?_⟩ | refine .inl ⟨_, _, rfl, IsS.sc, ?_⟩
    | refine .inl ⟨_, _, IsS.q, (by walk_at "lvA"), ?_⟩ | refine .inl ⟨_, _, IsS.r (by walk_at "lvM"), (by walk_at "lvA"), ?_⟩
    | refine .inl (g_int2 (And.intro (CMul.l (by omega) (by omega)) ?_)) | refine .inl (g_int2 (And.intro (CMul.r (by omega) (by omega)) ?_))
    | refine And.intro (CDiv.mk (by omega) (by omega)) ?_ | refine And.intro (by omega) ?_ | refine And.intro (Nat.le_of_ble_eq_true (by walk_at "lvW")) ?_
    | refine .inl ⟨_, _, rfl, ?_⟩
    | refine .inl ⟨_, rfl, ?_⟩ | refine .inr ⟨_, rfl, ?_⟩
    | refine ⟨_, _, _, _, rfl, (by walk_at "lvM"), rfl, (by walk_at "lvW"), ?_⟩
    | refine ⟨_, _, rfl, IsL.q, ?_⟩
    | refine ⟨_, rfl, .inl ⟨_, _, IsS.q, (by walk_at "lvA"), ?_⟩⟩))
local macro_rules
  | `(tactic| walk_at "lvm") => `(tactic| repeat' (first | walk_at "lv1" | (with_reducible refine s_seq ?_) | walk_at "lv2" | dsimp only))
local macro_rules
  | `(tactic| walk_at "lve") => `(tactic| repeat' (first | walk_at "lv1" | (with_reducible refine ev_lst ?_) | walk_at "lv2" | dsimp only))
local macro_rules
  | `(tactic| walk_at "lv") => `(tactic| repeat' (first | walk_at "lv1" | (with_reducible refine ev_lst ?_) | (with_reducible refine s_seq ?_) | walk_at "lv2" | dsimp only))
local macro_rules
  | `(tactic| walk_at "lve0") => `(tactic| repeat' (first
    | (with_reducible first | refine ev_var rfl ?_ | refine ev_int ?_ | refine ev_str ?_ | refine et_test ?_ | refine ev_eqE ?_ | refine ev_op ?_ | refine g_bl ?_ | refine g_eqI ?_ | refine g_eqSt ?_ | refine g_eqSf (by decide +kernel) ?_ | refine g_eqS ?_ | refine g_int ?_ | refine g_ifT ?_ | refine g_ifF ?_ | refine g_ifD ?_ ?_) | walk_at "lv2" | dsimp only))
local macro_rules
  | `(tactic| walk_at "lvx") => `(tactic| repeat' (first | (refine fun hx => absurd hx ?_; (with_reducible fail_if_success assumption); simp; done) | (refine fun _ => ?_; walk_at "lv")))
theorem ev_selF {z : Cz} {Γ : Gam} {M : Mem} {P : D → Mem → Prop} {te to : TE} {tt : TT} {vs : List Nat} {i j : Nat} {k : Bool} {W : List (Option Str)} (c : Nat → Str → Bool) (f : Nat → D) (hi : i ∈ vs) (hj : j ∈ vs) (hz : W.length ≤ 1000)
    (hw : EV z te Γ M fun d M1 => d = dWs k W ∧ M1 = M) (h0 : ∀ x y : D, (((wipeG Γ vs).set i (some x)).set j (some y))[j]? = some (some y))
    (hc : ∀ (b : Nat) (s : Str), W[b]? = some (some s) → ET z tt (((wipeG Γ vs).set i (some (.int (b : Nat)))).set j (some (.str s))) M fun q M1 => q = c b s ∧ M1 = M)
    (hf : ∀ (b : Nat) (s : Str), W[b]? = some (some s) → EV z to (((wipeG Γ vs).set i (some (.int (b : Nat)))).set j (some (.str s))) M fun y M1 => y = f b ∧ M1 = M)
    (n : NewL ((sel W c).map f) M P) :
    EV z (tLc (iEnumU z.K (tCons te tNil)) (gTup z.K 2 (gCons (gName i) (gCons (gName j) gNil))) (tAnd (tTest (tOp rNotNU (tVar j) (tC .non))) tt) to vs) Γ M P := by
  refine ev_lcX [i, j] (fun x h => by simp at h; rcases h with rfl | rfl <;> assumption) W.zipIdx (fun p => .sq false [.int (p.2 : Nat), dW p.1]) (fun p => match p.1 with | some s => c p.2 s | none => false) (fun p => f p.2) (ei_enum (ea_cons (hw.imp fun d M1 ⟨e1, e2⟩ => ea_nil ?_)))
  subst e1 e2
  refine ⟨_, _, rfl, .q, pairs_map W dW, by rw [List.length_zipIdx]; exact szl hz, .q, ?_, ?_⟩
  · intro a p hp
    rw [List.getElem?_zipIdx] at hp
    cases q : W[a]? with
    | none => rw [q] at hp; cases hp
    | some w =>
      rw [q] at hp
      simp only [Option.map_some, Option.some.injEq] at hp
      subst hp
      refine eg_tup2 ⟨rfl, et_and (et_test (ev_op (ev_var (h0 _ _) (ev_non ⟨rfl, _, rfl, fun hb => ?_, fun hb => ?_⟩))))⟩
      · rw [isNon_dW] at hb
        cases w with
        | none => cases hb
        | some s =>
          have := hc a s q
          have hff := hf a s q
          rw [Nat.zero_add]
          exact this.imp fun b M1 ⟨e1, e2⟩ => ⟨e1, e2, fun _ => hff⟩
      · rw [isNon_dW] at hb
        cases w with
        | none => exact ⟨rfl, rfl, fun q => nomatch q⟩
        | some s => cases hb
  · unfold sel at n
    rw [List.map_map] at n
    exact n
def W_law_kept_weight : Fw := fun ds M P => ∃ (k k' k'' : Bool) (W : List (Option Str)) (V : List Int) (xs : List Str), ds = [dWs k W, dVs k' V, .sq k'' (xs.map D.str)] ∧ W.length = xs.length ∧ V.length = W.length ∧ W.length ≤ 100 ∧ P (.int ((keptB W xs).map fun b => V.getD b 0).sum) M
def N_law_kept_weight : List Str := ["_law_wishes_here", "_law_weights_here", "_law_naming", "_law_spot", "_law_wish"]
def P_law_kept_weight : List Str := ["_law_wishes_here", "_law_weights_here", "_law_naming"]
theorem sc_law_kept_weight : FnScope N_law_kept_weight P_law_kept_weight (defScope s_law_kept_weight) := ⟨rfl, rfl, rfl, by decide +kernel, rfl, by decide +kernel, by decide +kernel⟩
theorem h_law_kept_weight {z : Cz} {mg : Str → Option Value} {base : Heap} {CF CT : Addr} (G : Gf z mg CF CT) (Dd : Df z mg "_law_kept_weight" s_law_kept_weight)  : Has z mg base "_law_kept_weight" P_law_kept_weight (0 + 1) (W_law_kept_weight) := by
  refine okDf Dd sc_law_kept_weight (fun _ _ _ _ _ _ us hl => match us, hl with | [_, _, _], _ => rfl) (fun ds M P hw => ?_) (fun f cdv A outer s H E hr ds M P hw => ?_)
  · obtain ⟨k, k', k'', W, V, xs, rfl, _⟩ := hw
    rfl
  obtain ⟨kk, k', k'', W, V, xs, rfl, hl, hv, hz, k⟩ := hw
  refine ⟨_, (pss_one (ps_ret (pe_callB (zc_sum z) rfl G.sum boot_sum (pa_cons (pe_lc (own := [("_law_spot", 3), ("_law_wish", 4)]) rfl sc_law_kept_weight.nd (zi_enum z G.enumerate (pa_cons (pv 0) pa_nil)) (blkOk_by (N := N_law_kept_weight) (sc := defScope s_law_kept_weight) (by decide +kernel)) (fun _ _ _ _ _ => (zg_tup (n := 2) z (pgs_cons (pg_name (i := 3) sc_law_kept_weight.nd rfl (.inl rfl)) (pgs_cons (pg_name (i := 4) sc_law_kept_weight.nd rfl (.inl rfl)) pgs_nil)))) (fun _ _ _ _ _ => (pts_one (PW.pt (pw_and (pt_cmpR ox_notN (pv 4) pe_non (nomark _)) (pw_and1 (pt_cmpR (zo_eq z hr) (pv 4) (zx_ix z (pv 2) (pv 3)) (nomark _))))))) (fun _ _ _ _ _ => (zx_ix z (pv 1) (pv 3)))) pa_nil)))), ?_⟩
  refine s_ret (ev_cb (ea_cons ?_))
  refine ev_selF (k := kk) (W := W) (fun b s => decide (some s = xs[b]?)) (fun b => D.int (V.getD b 0)) (by simp) (by simp) (by omega) (ev_var rfl ⟨rfl, rfl⟩) (fun x y => rfl) (fun b s hb => ?_) (fun b s hb => ?_) ⟨?_, .inl ?_⟩
  · have hb' : b < xs.length := by rw [← hl]; exact (List.getElem?_eq_some_iff.mp hb).1
    refine et_test (ev_op (ev_var rfl (ev_op (ev_var rfl (ev_var rfl ⟨_, rfl, .inl ⟨_, .str xs[b], .q, atI_nat b (by rw [List.getElem?_map, List.getElem?_eq_getElem hb']; rfl), ?_⟩⟩)))))
    walk_at "lve"
    refine ⟨?_, rfl⟩
    rw [List.getElem?_eq_getElem hb']
    simp
  · have hb2 : b < V.length := by rw [hv]; exact (List.getElem?_eq_some_iff.mp hb).1
    exact ev_op (ev_var rfl (ev_var rfl ⟨_, rfl, .inl ⟨_, _, .q, atI_nat b (int_at hb2), rfl, rfl⟩⟩))
  · rw [List.length_map]; exact Nat.le_trans (sel_len _ _) (szl (by omega))
  exact ea_nil ⟨_, (keptB W xs).map fun b => V.getD b 0, rfl, .inl (by rw [List.map_map]; rfl), k⟩
def dLot (p : List Nat × Int) : D := .sq true [dNat p.1, .int p.2]
def okLot (lv : Lvs) (b : Nat) (p : List Nat × Int) : Bool := (p.1.filter fun (c : Nat) => decide (Sum.inl (c : Int) ∈ lv.getD b [])).isEmpty
def putLot (V : List Int) (b : Nat) (p : List Nat × Int) : List Nat × Int := (p.1 ++ [b], p.2 + V.getD b 0)
def addLot (lv : Lvs) (V : List Int) (line : List (List Nat × Int)) (b : Nat) : List (List Nat × Int) := line ++ (line.filter (okLot lv b)).map (putLot V b)
def bestLine (lv : Lvs) (V : List Int) (some : List Nat) : List (List Nat × Int) := some.foldl (addLot lv V) [([], 0)]
def sameW (lv : Lvs) (W : List (Option Str)) (s : Str) : List Nat := (wishers lv W).filter fun b => decide (W.getD b none = some s)
def bestS (lv : Lvs) (W : List (Option Str)) (V : List Int) (s : Str) : Int := ((bestLine lv V (sameW lv W s)).map (·.2)).foldl max 0
theorem foldmax (ns : List Int) (a : Int) : a ≤ ns.foldl max a ∧ (∀ y ∈ ns, y ≤ ns.foldl max a) ∧ (ns.foldl max a = a ∨ ns.foldl max a ∈ ns) := by
  induction ns generalizing a with
  | nil => exact ⟨Int.le_refl _, (fun _ h => nomatch h), .inl rfl⟩
  | cons x ns ih =>
    obtain ⟨h1, h2, h3⟩ := ih (max a x)
    rw [List.foldl_cons]
    refine ⟨by omega, fun y hy => ?_, ?_⟩
    · rcases List.mem_cons.mp hy with rfl | hy
      · omega
      · exact h2 y hy
    · rcases h3 with h | h
      · rcases Int.le_total a x with q | q
        · exact .inr (by rw [h, Int.max_eq_right q]; exact List.mem_cons_self ..)
        · exact .inl (by rw [h, Int.max_eq_left q])
      · exact .inr (List.mem_cons_of_mem _ h)
theorem bestLine_len {lv : Lvs} {V : List Int} (bs : List Nat) : ∀ (line : List (List Nat × Int)), (bs.foldl (addLot lv V) line).length ≤ line.length * 2 ^ bs.length := by
  induction bs with
  | nil => intro line; simp
  | cons b bs ih =>
    intro line
    rw [List.foldl_cons]
    refine Nat.le_trans (ih _) ?_
    have e1 : (addLot lv V line b).length ≤ line.length * 2 := by
      unfold addLot
      rw [List.length_append, List.length_map]
      have := List.length_filter_le (okLot lv b) line
      omega
    refine Nat.le_trans (Nat.mul_le_mul_right _ e1) ?_
    rw [List.length_cons, Nat.pow_succ, Nat.mul_assoc, Nat.mul_comm 2]
    exact Nat.le_refl _
theorem bestLine_lot {lv : Lvs} {V : List Int} (bs : List Nat) : ∀ (n : Nat) (line : List (List Nat × Int)), (∀ p ∈ line, p.1.length ≤ n) → ∀ p ∈ bs.foldl (addLot lv V) line, p.1.length ≤ n + bs.length := by
  induction bs with
  | nil => intro n line h; exact h
  | cons b bs ih =>
    intro n line h p hp
    rw [List.foldl_cons] at hp
    have := ih (n + 1) (addLot lv V line b) (fun p hp => by
      unfold addLot at hp
      rcases List.mem_append.mp hp with h1 | h1
      · exact Nat.le_succ_of_le (h p h1)
      · obtain ⟨x, hx, rfl⟩ := List.mem_map.mp h1
        have := h x (List.mem_filter.mp hx).1
        show (x.1 ++ [b]).length ≤ n + 1
        rw [List.length_append]
        simp
        exact this) p hp
    rw [List.length_cons]
    omega
theorem best_mem0 {lv : Lvs} {V : List Int} (bs : List Nat) : ∀ line : List (List Nat × Int), ([], 0) ∈ line → ([], 0) ∈ bs.foldl (addLot lv V) line := by
  induction bs with
  | nil => intro line h; exact h
  | cons b bs ih => intro line h; exact ih _ (List.mem_append_left _ h)
theorem sameW_lt {lv : Lvs} {W : List (Option Str)} {s : Str} {b : Nat} (h : b ∈ sameW lv W s) : b < W.length := wishers_lt (List.mem_filter.mp h).1
theorem sameW_len {lv : Lvs} {W : List (Option Str)} {s : Str} : (sameW lv W s).length ≤ W.length := Nat.le_trans (List.length_filter_le _ _) (sel_len _ _)
theorem best_is {lv : Lvs} {W : List (Option Str)} {V : List Int} {s : Str} {m : Int} (h1 : m ∈ (bestLine lv V (sameW lv W s)).map (·.2)) (h2 : ∀ y ∈ (bestLine lv V (sameW lv W s)).map (·.2), y ≤ m) : m = bestS lv W V s := by
  obtain ⟨_, q2, q3⟩ := foldmax ((bestLine lv V (sameW lv W s)).map (·.2)) 0
  have h0 : (0 : Int) ∈ (bestLine lv V (sameW lv W s)).map (·.2) := List.mem_map.mpr ⟨([], 0), best_mem0 _ _ (List.mem_cons_self ..), rfl⟩
  have a := q2 m h1
  have b : bestS lv W V s ≤ m := by
    rcases q3 with h | h
    · unfold bestS; rw [h]; exact h2 0 h0
    · exact h2 _ h
  unfold bestS at b ⊢
  omega
theorem lives_at {t : Tr} {b : Nat} (h : b < (LV (scn t)).length) : ((LV (scn t)).map fun ks => D.sq true (ks.map kD))[b]? = some (.sq true (((LV (scn t)).getD b []).map kD)) := lv_at h
def W_law_best_of : Fw := fun ds M P => ∃ (t : Tr) (p : Addr) (X Y : D) (k k' : Bool) (W : List (Option Str)) (V : List Int) (s : Str), ds = [.ref p, dWs k W, dVs k' V, .str s] ∧ TmOk t ∧ PgM M p t X Y true ∧ W.length = (scn t).nm.length ∧ V.length = W.length ∧ P (.int (bestS (LV (scn t)) W V s)) M
def N_law_best_of : List Str := ["_law_page_here", "_law_wishes_here", "_law_weights_here", "_law_name", "_law_binder", "_law_some", "_law_line", "_law_live_here", "_law_lot", "_law_weight", "_law_one_here"]
def P_law_best_of : List Str := ["_law_page_here", "_law_wishes_here", "_law_weights_here", "_law_name"]
theorem sc_law_best_of : FnScope N_law_best_of P_law_best_of (defScope s_law_best_of) := ⟨rfl, rfl, rfl, by decide +kernel, rfl, by decide +kernel, by decide +kernel⟩
theorem h_law_best_of {z : Cz} {mg : Str → Option Value} {base : Heap} {CF CT : Addr} (G : Gf z mg CF CT) (Dd : Df z mg "_law_best_of" s_law_best_of) (H_law_lives : Has z mg base "_law_lives" P_law_lives 5 W_law_lives) (H_law_wishers : Has z mg base "_law_wishers" P_law_wishers 6 W_law_wishers) : Has z mg base "_law_best_of" P_law_best_of (6 + 1) (W_law_best_of) := by
  refine okDf Dd sc_law_best_of (fun _ _ _ _ _ _ us hl => match us, hl with | [_, _, _, _], _ => rfl) (fun ds M P hw => ?_) (fun f cdv A outer s H E hr ds M P hw => ?_)
  · obtain ⟨t, p, X, Y, k, k', W, V, s, rfl, _⟩ := hw
    rfl
  obtain ⟨t, p, X, Y, kk, k', W, V, s, rfl, ht, hp, hl, hv, k⟩ := hw
  refine ⟨_, (pss_cons (ps_setLc (i := 5) (own := [("_law_binder", 4)]) rfl sc_law_best_of.nd rfl rfl (sw_true rfl rfl rfl (by decide +kernel)) (zi_seq z (px_call H_law_wishers (hr.mono (by omega)) rfl (pa_cons (pv 0) (pa_cons (pv 1) pa_nil)))) (blkOk_by (N := N_law_best_of) (sc := defScope s_law_best_of) (by decide +kernel)) (fun _ _ _ _ _ => (pg_name (i := 4) sc_law_best_of.nd rfl (.inl rfl))) (fun _ _ _ _ _ => (pts_one (pt_cmpR (zo_eq z hr) (zx_ix z (pv 1) (pv 4)) (pv 3) (nomark _)))) (fun _ _ _ _ _ => (pv 4))) (pss_cons (ps_set (i := 6) sc_law_best_of.nd rfl (.inl rfl) (pe_lst (pa_cons (pe_lst (pa_cons (pe_lst pa_nil) (pa_cons pe_int pa_nil))) pa_nil))) (pss_cons (ps_for PassesOwn.never rfl (zi_seq z (pv 5)) (pg_name (i := 4) sc_law_best_of.nd rfl (.inl rfl)) (pss_cons (ps_set (i := 7) sc_law_best_of.nd rfl (.inr rfl) (zx_ix z (px_call H_law_lives (hr.mono (by omega)) rfl (pa_cons (pv 0) pa_nil)) (pv 4))) (pss_one (ps_for PassesOwn.never rfl (zi_seq z (pe_callTy (zc_list z) rfl G.list boot_list (pa_cons (pv 6) pa_nil))) (zg_unl (n := 2) z (pgs_cons (pg_name (i := 8) sc_law_best_of.nd rfl (.inl rfl)) (pgs_cons (pg_name (i := 9) sc_law_best_of.nd rfl (.inl rfl)) pgs_nil))) (pss_one (ps_if (pt_cmpR (zo_eq z hr) (pe_lc (own := [("_law_one_here", 10)]) rfl sc_law_best_of.nd (zi_seq z (pv 8)) (blkOk_by (N := N_law_best_of) (sc := defScope s_law_best_of) (by decide +kernel)) (fun _ _ _ _ _ => (pg_name (i := 10) sc_law_best_of.nd rfl (.inl rfl))) (fun _ _ _ _ _ => (pts_one (pt_cmpR (zo_in z) (pv 10) (pv 7) (by with_unfolding_all rfl)))) (fun _ _ _ _ _ => (pv 10))) (pe_lst pa_nil) (nomark _)) (pss_one (ps_expr (zx_bm z PySem.F.plainAttrs_list PySem.F.slot_list_append PySem.F.type_list_append xm_append (pv 6) (pa_cons (pe_lst (pa_cons (pe_op ox_add (pv 8) (pe_lst (pa_cons (pv 4) pa_nil))) (pa_cons (pe_op ox_add (pv 9) (zx_ix z (pv 2) (pv 4))) pa_nil))) pa_nil)))) pss_nil)))))) (pss_one (ps_ret (pe_callB (zc_max z) rfl G.max boot_max (pa_cons (pe_lc (own := [("_law_lot", 8), ("_law_weight", 9)]) rfl sc_law_best_of.nd (zi_seq z (pv 6)) (blkOk_by (N := N_law_best_of) (sc := defScope s_law_best_of) (by decide +kernel)) (fun _ _ _ _ _ => (zg_unl (n := 2) z (pgs_cons (pg_name (i := 8) sc_law_best_of.nd rfl (.inl rfl)) (pgs_cons (pg_name (i := 9) sc_law_best_of.nd rfl (.inl rfl)) pgs_nil)))) (fun _ _ _ _ _ => pts_nil) (fun _ _ _ _ _ => (pe_callTy (cx_int) rfl G.int boot_int (pa_cons (pv 9) pa_nil)))) pa_nil))))))), ?_⟩
  have h6 := nmN t
  have hb6 := ht.2.2
  refine EVS.forget ?_
  generalize hlv : LV (scn t) = lv at k
  have hlvl : lv.length = W.length := by rw [← hlv, LV_len, hl]
  have hws : (wishers lv W).length ≤ 100 := Nat.le_trans (sel_len _ _) (by omega)
  have hs6 : (sameW lv W s).length ≤ 6 := Nat.le_trans sameW_len (by omega)
  refine s_seq (s_set ?_)
  refine ev_lcX [4] (fun _ h => h) (wishers lv W) (fun c => D.int (c : Nat)) (fun c => decide (W.getD c none = some s)) (fun c => D.int (c : Nat)) (ei_seq (ev_call (ea_cons (ev_var rfl (ea_cons (ev_var rfl (ea_nil ⟨t, p, X, Y, true, kk, W, rfl, ht, hp, hl, ?_⟩)))))))
  rw [hlv, pgT_re hp]
  refine ⟨_, .q, rfl, szl (by omega), .q, ?_, ?_, .inl ?_⟩
  · intro i c hc
    have hcm := wishers_lt (List.mem_of_getElem? hc)
    refine eg_name ⟨rfl, et_test (ev_op (ev_op (ev_var rfl (ev_var rfl ⟨_, rfl, .inl ⟨_, _, .q, atI_nat c (W_at (k := kk) hcm), ?_⟩⟩))))⟩
    exact ev_var rfl ⟨_, dW_eq _ (some s), _, rfl, rfl, rfl, fun _ => ev_var rfl ⟨rfl, rfl⟩⟩
  · rw [List.length_map]; exact Nat.le_trans (List.length_filter_le _ _) (szl (by omega))
  have esm : (wishers lv W).filter (fun c => decide (W.getD c none = some s)) = sameW lv W s := rfl
  rw [esm]
  generalize hsm : sameW lv W s = sm at hs6
  have hsmlt : ∀ b ∈ sm, b < W.length := fun b hb => by rw [← hsm] at hb; exact sameW_lt hb
  refine s_seq (s_set (ev_lstM (ea_cons (ev_lst (ea_cons (ev_lst (ea_nil ⟨Nat.le_of_ble_eq_true rfl, ?_⟩)))))))
  refine ea_cons (ev_int (ea_nil ⟨Nat.le_of_ble_eq_true rfl, ?_⟩))
  refine ea_nil ⟨Nat.le_of_ble_eq_true rfl, fun r hr => ?_⟩
  have hpr : p ≠ r := fun e => by subst e; rw [show M p = _ from hp] at hr; cases hr
  have hpg : ∀ l : List D, PgM (mupd M r (.lst l)) p t X Y true := fun l => by unfold PgM; rw [mupd_ne hpr]; exact hp
  have hbl : ∀ i, ((sm.take i).foldl (addLot lv V) [([], 0)]).length ≤ 64 := fun i => by
    refine Nat.le_trans (bestLine_len _ _) ?_
    rw [List.length_cons, List.length_nil, Nat.zero_add, Nat.one_mul]
    exact Nat.le_trans (Nat.pow_le_pow_right (by decide) (show (sm.take i).length ≤ 6 by rw [List.length_take]; omega)) (by decide)
  have hbt : ∀ i, ∀ l ∈ (sm.take i).foldl (addLot lv V) [([], 0)], l.1.length ≤ 6 := fun i l hl2 => by
    have := bestLine_lot (lv := lv) (V := V) (sm.take i) 0 [([], 0)] (fun p hp => by simp at hp; subst hp; exact Nat.le_refl _) l hl2
    have h3 : (sm.take i).length ≤ 6 := by rw [List.length_take]; omega
    omega
  refine s_seq (s_for (js := [4]) (ei_seq (ev_var rfl ⟨_, .q, fun i γ m => ∃ c4 c7 c8 c9 c10, γ = [some (.ref p), some (dWs kk W), some (dVs k' V), some (.str s), c4, some (dNat sm), some (.ref r), c7, c8, c9, c10] ∧ m = mupd M r (.lst (((sm.take i).foldl (addLot lv V) [([], 0)]).map dLot)), ⟨_, _, _, _, _, rfl, rfl⟩, fun _ _ _ _ _ => .q, ?_, ?_⟩)))
  · rintro i x γ m hx ⟨c4, c7, c8, c9, c10, rfl, rfl⟩
    rw [List.getElem?_map] at hx
    cases qb : sm[i]? with
    | none => rw [qb] at hx; cases hx
    | some b =>
      rw [qb] at hx
      cases hx
      have hb := hsmlt b (List.mem_of_getElem? qb)
      have hst := foldl_take_succ (f := addLot lv V) (b := [([], 0)]) qb
      have hL := hbl i
      have hL2 := hbl (i + 1)
      have hT := hbt i
      generalize hff : (sm.take i).foldl (addLot lv V) [([], 0)] = ff at hst hL hT ⊢
      refine eg_name (s_seq (s_set (ev_op (ev_call (ea_cons (ev_var rfl (ea_nil ⟨t, p, X, Y, true, rfl, ht, hpg _, ?_⟩)))))))
      rw [pgT_re (hpg _), hlv]
      refine ev_var rfl ⟨_, rfl, .inl ⟨_, _, .q, atI_nat b (lv_at (by omega)), ?_⟩⟩
      refine (s_for (js := [8, 9]) (ei_seq (ev_cb (ea_cons (ev_var rfl (ea_nil (.inl ⟨_, _, rfl, .r mupd_same, by rw [List.length_map]; exact szl (by omega), .inl ?_⟩)))))))
      refine ⟨_, .q, fun j γ m => ∃ c8 c9 c10, γ = [some (.ref p), some (dWs kk W), some (dVs k' V), some (.str s), some (.int (b : Nat)), some (dNat sm), some (.ref r), some (.sq true ((lv.getD b []).map kD)), c8, c9, c10] ∧ m = mupd M r (.lst ((ff ++ ((ff.take j).filter (okLot lv b)).map (putLot V b)).map dLot)), ⟨_, _, _, rfl, by simp⟩, fun _ _ _ _ _ => .q, ?_, ?_⟩
      · rintro j x γ m hx ⟨c8, c9, c10, rfl, rfl⟩
        rw [List.getElem?_map] at hx
        cases ql : ff[j]? with
        | none => rw [ql] at hx; cases hx
        | some l =>
          rw [ql] at hx
          cases hx
          have hll := hT l (List.mem_of_getElem? ql)
          have htk : (ff.take (j + 1)).filter (okLot lv b) = (ff.take j).filter (okLot lv b) ++ (if okLot lv b l = true then [l] else []) := by
            rw [List.take_add_one, ql, List.filter_append]
            congr 1
            by_cases h : okLot lv b l = true <;> simp [h]
          have hln : (ff ++ ((ff.take j).filter (okLot lv b)).map (putLot V b)).length ≤ 200 := by
            rw [List.length_append, List.length_map]
            have := List.length_filter_le (okLot lv b) (ff.take j)
            have h2 := List.length_take_le j ff
            have h3 : (ff.take j).length ≤ ff.length := by rw [List.length_take]; omega
            omega
          unfold dLot
          refine eg_unl2 (s_if (et_test (ev_eqE ?_)))
          refine ev_lcX [10] (fun _ h => h) l.1 (fun c => D.int (c : Nat)) (fun c => decide (Sum.inl (c : Int) ∈ lv.getD b [])) (fun c => D.int (c : Nat)) (ei_seq (ev_var rfl ⟨_, .q, rfl, szl (by omega), .q, ?_, ?_, .inl ?_⟩))
          · intro a c hc
            refine eg_name ⟨rfl, et_test (ev_op (ev_var rfl (ev_var rfl ⟨_, .q, rfl, flat_key _, ?_⟩)))⟩
            have e := inD_key (x := .inl (c : Int)) (xs := lv.getD b [])
            refine ⟨_, rfl, ?_, rfl, fun _ => ev_var rfl ⟨rfl, rfl⟩⟩
            rw [← e]
            rfl
          · rw [List.length_map]; exact Nat.le_trans (List.length_filter_le _ _) (szl (by omega))
          refine ⟨_, rfl, ⟨0, by decide, fun x hx => ?_⟩, _, rfl, fun h2 => ?_, fun h2 => ?_⟩
          · obtain ⟨y, _, rfl⟩ := List.mem_map.mp hx
            exact Da.int
          · have h2' : okLot lv b l = true := by rw [List.isEmpty_map] at h2; exact h2
            refine s_drop (ev_bm (ev_var rfl ⟨⟨_, .inl ⟨r, rfl, mupd_same⟩⟩, ea_cons (ev_lst (ea_cons (ev_op (ev_var rfl (ev_lst (ea_cons (ev_var rfl (ea_nil ⟨Nat.le_of_ble_eq_true rfl, ?_⟩))))))))⟩))
            refine .inr (.inr ⟨_, _, .q, .q, ?_, .inl ?_⟩)
            · rw [List.length_append, List.length_map]; exact szl (by simp; omega)
            refine ea_cons (ev_op (ev_var rfl (ev_op (ev_var rfl (ev_var rfl ⟨_, rfl, .inl ⟨_, _, .q, atI_nat b (int_at (by omega)), ?_⟩⟩)))))
            refine .inl ⟨_, _, rfl, rfl, ?_⟩
            refine ea_nil ⟨Nat.le_of_ble_eq_true rfl, ?_⟩
            refine ea_nil ⟨r, _, rfl, mupd_same, _, rfl, by rw [List.length_map]; simp only [sizeLine]; omega, ?_⟩
            refine ⟨_, _, _, rfl, ?_⟩
            rw [mupd_mupd, htk, if_pos h2', List.map_append (l₁ := List.filter _ _), ← List.append_assoc, List.map_append (l₂ := List.map _ [l])]
            simp [putLot, dLot, dNat]
          · have h2' : ¬ okLot lv b l = true := by rw [List.isEmpty_map] at h2; intro q; rw [show okLot lv b l = _ from h2] at q; cases q
            refine s_next ⟨_, _, _, rfl, ?_⟩
            rw [htk, if_neg h2', List.append_nil]
      · rintro γ m ⟨c8, c9, c10, rfl, rfl⟩
        refine ⟨_, _, _, _, _, rfl, ?_⟩
        rw [List.length_map, List.take_length, hst]
        rfl
  · rintro γ m ⟨c4, c7, c8, c9, c10, rfl, rfl⟩
    rw [List.length_map, List.take_length]
    have hL := hbl sm.length
    rw [List.take_length] at hL
    generalize hff : sm.foldl (addLot lv V) [([], 0)] = ff at hL
    refine s_ret (ev_cb (ea_cons ?_))
    refine ev_lcA [8, 9] (fun _ h => h) ff dLot (fun l => D.int l.2) (ei_seq (ev_var rfl ⟨_, .r mupd_same, rfl, szl (by omega), .r mupd_same, ?_, ?_, .inl ?_⟩))
    · intro j l hj
      refine eg_unl2 ⟨rfl, ev_cb (ea_cons (ev_var rfl (ea_nil (.inl ⟨_, rfl, rfl, rfl⟩))))⟩
    · rw [List.length_map]; exact szl (by omega)
    refine ea_nil (.inr ⟨_, ff.map (·.2), rfl, ?_, ?_, fun m hm hm2 => ?_⟩)
    · rw [List.map_map]; exact .q
    · rw [List.length_map]
      exact List.length_pos_of_mem (a := ([], 0)) (by rw [← hff]; exact best_mem0 _ _ (List.mem_cons_self ..))
    · have eb : ff = bestLine lv V (sameW lv W s) := by rw [hsm]; exact hff.symm
      rw [eb] at hm hm2
      rw [best_is hm hm2]
      exact ⟨M, mupd_ex hr, k⟩
def bestSum (lv : Lvs) (W : List (Option Str)) (V : List Int) : Int := ((uq (wishL W)).map (bestS lv W V)).sum
def W_law_best : Fw := fun ds M P => ∃ (t : Tr) (p : Addr) (X Y : D) (k k' : Bool) (W : List (Option Str)) (V : List Int), ds = [.ref p, dWs k W, dVs k' V] ∧ TmOk t ∧ PgM M p t X Y true ∧ W.length = (scn t).nm.length ∧ V.length = W.length ∧ P (.int (bestSum (LV (scn t)) W V)) M
def N_law_best : List Str := ["_law_page_here", "_law_wishes_here", "_law_weights_here", "_law_names", "_law_prices", "_law_found", "_law_name", "_law_some", "_law_binder", "_law_wish"]
def P_law_best : List Str := ["_law_page_here", "_law_wishes_here", "_law_weights_here"]
theorem sc_law_best : FnScope N_law_best P_law_best (defScope s_law_best) := ⟨rfl, rfl, rfl, by decide +kernel, rfl, by decide +kernel, by decide +kernel⟩
theorem h_law_best {z : Cz} {mg : Str → Option Value} {base : Heap} {CF CT : Addr} (G : Gf z mg CF CT) (Dd : Df z mg "_law_best" s_law_best) (H_law_unlike : Has z mg base "_law_unlike" P_law_unlike 1 W_law_unlike) (H_law_wishers : Has z mg base "_law_wishers" P_law_wishers 6 W_law_wishers) (H_law_best_of : Has z mg base "_law_best_of" P_law_best_of 7 W_law_best_of) (H_law_told_prices : Has z mg base "_law_told_prices" P_law_told_prices 8 W_law_told_prices) : Has z mg base "_law_best" P_law_best (8 + 1) (W_law_best) := by
  refine okDf Dd sc_law_best (fun _ _ _ _ _ _ us hl => match us, hl with | [_, _, _], _ => rfl) (fun ds M P hw => ?_) (fun f cdv A outer s H E hr ds M P hw => ?_)
  · obtain ⟨t, p, X, Y, k, k', W, V, rfl, _⟩ := hw
    rfl
  obtain ⟨t, p, X, Y, kk, k', W, V, rfl, ht, hp, hl, hv, k⟩ := hw
  refine ⟨_, (pss_cons (ps_asg (pe_tup (pa_cons (px_call H_law_unlike (hr.mono (by omega)) rfl (pa_cons (pe_lc (own := [("_law_wish", 9)]) rfl sc_law_best.nd (zi_seq z (pv 1)) (blkOk_by (N := N_law_best) (sc := defScope s_law_best) (by decide +kernel)) (fun _ _ _ _ _ => (pg_name (i := 9) sc_law_best.nd rfl (.inl rfl))) (fun _ _ _ _ _ => (pts_one (pt_cmpR ox_notN (pv 9) pe_non (nomark _)))) (fun _ _ _ _ _ => (pv 9))) pa_nil)) (pa_cons pe_non (pa_cons pe_int pa_nil)))) (zg_tup (n := 3) z (pgs_cons (pg_name (i := 3) sc_law_best.nd rfl (.inl rfl)) (pgs_cons (pg_name (i := 4) sc_law_best.nd rfl (.inr rfl)) (pgs_cons (pg_name (i := 5) sc_law_best.nd rfl (.inl rfl)) pgs_nil))))) (pss_cons (ps_for PassesOwn.never rfl (zi_seq z (pv 3)) (pg_name (i := 6) sc_law_best.nd rfl (.inr rfl)) (pss_cons (ps_setLc (i := 7) (own := [("_law_binder", 8)]) rfl sc_law_best.nd rfl rfl (sw_true rfl rfl rfl (by decide +kernel)) (zi_seq z (px_call H_law_wishers (hr.mono (by omega)) rfl (pa_cons (pv 0) (pa_cons (pv 1) pa_nil)))) (blkOk_by (N := N_law_best) (sc := defScope s_law_best) (by decide +kernel)) (fun _ _ _ _ _ => (pg_name (i := 8) sc_law_best.nd rfl (.inl rfl))) (fun _ _ _ _ _ => (pts_one (pt_cmpR (zo_eq z hr) (zx_ix z (pv 1) (pv 8)) (pv 6) (nomark _)))) (fun _ _ _ _ _ => (pv 8))) (pss_one (ps_if (pt_cmpR ox_le (pe_callB (zc_len z) rfl G.len boot_len (pa_cons (pv 7) pa_nil)) pe_int (nomark _)) (pss_one (ps_set (i := 5) sc_law_best.nd rfl (.inl rfl) (pe_op ox_add (pv 5) (px_call H_law_best_of (hr.mono (by omega)) rfl (pa_cons (pv 0) (pa_cons (pv 1) (pa_cons (pv 2) (pa_cons (pv 6) pa_nil)))))))) (pss_cons (ps_set (i := 4) sc_law_best.nd rfl (.inr rfl) (pe_ifExp (pt_cmpR ox_isN (pv 4) pe_non (nomark _)) (px_call H_law_told_prices (hr.mono (by omega)) rfl (pa_cons (pv 0) (pa_cons (pv 1) (pa_cons (pv 2) pa_nil)))) (pv 4))) (pss_one (ps_set (i := 5) sc_law_best.nd rfl (.inl rfl) (pe_op ox_add (pv 5) (pe_callB (zc_sum z) rfl G.sum boot_sum (pa_cons (pe_lc (own := [("_law_binder", 8)]) rfl sc_law_best.nd (zi_seq z (pv 7)) (blkOk_by (N := N_law_best) (sc := defScope s_law_best) (by decide +kernel)) (fun _ _ _ _ _ => (pg_name (i := 8) sc_law_best.nd rfl (.inl rfl))) (fun _ _ _ _ _ => pts_nil) (fun _ _ _ _ _ => (pe_callTy (cx_int) rfl G.int boot_int (pa_cons (zx_ix z (pv 4) (pv 8)) pa_nil)))) pa_nil)))))))))) (pss_one (ps_ret (pv 5))))), ?_⟩
  have h6 := nmN t
  have hb6 := ht.2.2
  generalize hlv : LV (scn t) = lv at k
  have hws : (wishers lv W).length ≤ 100 := Nat.le_trans (sel_len _ _) (by omega)
  have hwl : (wishL W).length ≤ W.length := List.length_filterMap_le _ _
  have hul := uq_len (wishL W)
  refine s_seq (s_tup3 (ev_tup (ea_cons (ev_call (ea_cons ?_)))))
  refine ev_lcX [9] (fun _ h => h) W dW (fun w => !w.isNone) dW (ei_seq (ev_var rfl ⟨_, .q, rfl, szl (by omega), .q, ?_, ?_, .inl ?_⟩))
  · intro i w hw2
    refine eg_name ⟨rfl, et_test (ev_op (ev_var rfl (ev_non ⟨rfl, _, rfl, ?_, rfl, fun _ => ev_var rfl ⟨rfl, rfl⟩⟩)))⟩
    rw [isNon_dW]
  · rw [List.length_map]; exact Nat.le_trans (List.length_filter_le _ _) (szl (by omega))
  rw [wish_eq]
  refine ea_nil ⟨_, rfl, flat_strs _, by rw [List.length_map]; exact szl (by omega), ?_⟩
  rw [unlike_strs, uniq_uq]
  refine ea_cons (ev_non (ea_cons (ev_int (ea_nil ⟨Nat.le_of_ble_eq_true rfl, _, _, _, rfl, ?_⟩))))
  generalize hns : uq (wishL W) = ns at hul
  refine s_seq (s_for (js := [6]) (ei_seq (ev_var rfl ⟨_, .q, fun i γ m => ∃ c6 c7 c8 c9, γ = [some (.ref p), some (dWs kk W), some (dVs k' V), some (.sq true (ns.map D.str)), some .non, some (.int ((ns.take i).map (bestS lv W V)).sum), c6, c7, c8, c9] ∧ m = M, ⟨_, _, _, _, rfl, rfl⟩, fun _ _ _ _ _ => .q, ?_, ?_⟩)))
  · rintro i x γ m hx ⟨c6, c7, c8, c9, rfl, rfl⟩
    rw [List.getElem?_map] at hx
    cases qs : ns[i]? with
    | none => rw [qs] at hx; cases hx
    | some s =>
      rw [qs] at hx
      cases hx
      have hs6 : (sameW lv W s).length ≤ 6 := Nat.le_trans sameW_len (by omega)
      refine eg_name (s_seq (s_set ?_))
      refine ev_lcX [8] (fun _ h => h) (wishers lv W) (fun c => D.int (c : Nat)) (fun c => decide (W.getD c none = some s)) (fun c => D.int (c : Nat)) (ei_seq (ev_call (ea_cons (ev_var rfl (ea_cons (ev_var rfl (ea_nil ⟨t, p, X, Y, true, kk, W, rfl, ht, hp, hl, ?_⟩)))))))
      rw [hlv, pgT_re hp]
      refine ⟨_, .q, rfl, szl (by omega), .q, ?_, ?_, .inl ?_⟩
      · intro i c hc
        have hcm := wishers_lt (List.mem_of_getElem? hc)
        refine eg_name ⟨rfl, et_test (ev_op (ev_op (ev_var rfl (ev_var rfl ⟨_, rfl, .inl ⟨_, _, .q, atI_nat c (W_at (k := kk) hcm), ?_⟩⟩))))⟩
        exact ev_var rfl ⟨_, dW_eq _ (some s), _, rfl, rfl, rfl, fun _ => ev_var rfl ⟨rfl, rfl⟩⟩
      · rw [List.length_map]; exact Nat.le_trans (List.length_filter_le _ _) (szl (by omega))
      have esm : (wishers lv W).filter (fun c => decide (W.getD c none = some s)) = sameW lv W s := rfl
      rw [esm]
      refine s_if (et_test (ev_op (ev_cb (ea_cons (ev_var rfl (ea_nil (.inl ⟨_, _, rfl, .q, ev_int ⟨_, _, rfl, rfl, _, rfl, fun h1 => ?_, fun h1 => ?_⟩⟩)))))))
      · refine s_set (ev_op (ev_var rfl (ev_call (ea_cons (ev_var rfl (ea_cons (ev_var rfl (ea_cons (ev_var rfl (ea_cons (ev_var rfl (ea_nil ⟨t, p, X, Y, kk, k', W, V, s, rfl, ht, hp, hl, hv, ?_⟩))))))))))))
        rw [hlv]
        refine .inl ⟨_, _, rfl, rfl, ?_⟩
        have es : ((ns.take (i + 1)).map (bestS lv W V)).sum = ((ns.take i).map (bestS lv W V)).sum + bestS lv W V s := by
          rw [List.take_add_one, qs, List.map_append, List.sum_append]
          simp
        exact ⟨some (.str s), some (dNat (sameW lv W s)), c8, c9, by rw [es]; rfl, rfl⟩
      · have := of_decide_eq_false h1
        rw [List.length_map] at this
        omega
  · rintro γ m ⟨c6, c7, c8, c9, rfl, rfl⟩
    rw [List.length_map, List.take_length]
    refine s_ret (ev_var rfl ?_)
    unfold bestSum at k
    rw [hns] at k
    exact k
end Lv

set_option Elab.async false
set_option linter.all false
set_option maxRecDepth 100000
set_option maxHeartbeats 4000000
/-! Sc5: the plain law. -/
namespace Lv
open PySem PySem.Spec PyProof.Rows L2
def sumF (L : List Nat) (f : Nat → Int) : Int := (L.map f).sum
theorem sumF_nil (f : Nat → Int) : sumF [] f = 0 := rfl
theorem sumF_cons (b : Nat) (L : List Nat) (f : Nat → Int) : sumF (b :: L) f = f b + sumF L f := by unfold sumF; rw [List.map_cons, List.sum_cons]
theorem sumF_app (L K : List Nat) (f : Nat → Int) : sumF (L ++ K) f = sumF L f + sumF K f := by unfold sumF; rw [List.map_append, List.sum_append]
theorem sumF_congr {L : List Nat} {f g : Nat → Int} (h : ∀ b ∈ L, f b = g b) : sumF L f = sumF L g := by
  induction L with
  | nil => rfl
  | cons b L ih => rw [sumF_cons, sumF_cons, h b (List.mem_cons_self ..), ih fun c hc => h c (List.mem_cons_of_mem _ hc)]
theorem sumF_le {L : List Nat} {f g : Nat → Int} (h : ∀ b ∈ L, f b ≤ g b) : sumF L f ≤ sumF L g := by
  induction L with
  | nil => exact Int.le_refl _
  | cons b L ih =>
    rw [sumF_cons, sumF_cons]
    have := h b (List.mem_cons_self ..)
    have := ih fun c hc => h c (List.mem_cons_of_mem _ hc)
    omega
theorem sumF_add (L : List Nat) (f g : Nat → Int) : sumF L (fun b => f b + g b) = sumF L f + sumF L g := by
  induction L with
  | nil => rfl
  | cons b L ih => rw [sumF_cons, sumF_cons, sumF_cons, ih]; omega
theorem sumF_zero (L : List Nat) : sumF L (fun _ => 0) = 0 := by
  induction L with
  | nil => rfl
  | cons b L ih => rw [sumF_cons, ih]; rfl
theorem sumF_swap (K L : List Nat) (g : Nat → Nat → Int) : sumF K (fun b => sumF L fun c => g b c) = sumF L fun c => sumF K fun b => g b c := by
  induction K with
  | nil => rw [sumF_nil]; exact (sumF_zero L).symm
  | cons b K ih =>
    rw [sumF_cons, ih, ← sumF_add]
    exact sumF_congr fun c _ => (sumF_cons b K fun b => g b c).symm
theorem sumF_filter (L : List Nat) (q : Nat → Bool) (f : Nat → Int) : sumF (L.filter q) f = sumF L fun c => if q c = true then f c else 0 := by
  induction L with
  | nil => rfl
  | cons b L ih =>
    by_cases h : q b = true
    · rw [List.filter_cons_of_pos h, sumF_cons, sumF_cons, ih, if_pos h]
    · rw [List.filter_cons_of_neg h, sumF_cons, ih, if_neg h]; omega
theorem sumF_one {L : List Nat} (hn : L.Nodup) {b : Nat} (hb : b ∈ L) (f : Nat → Int) : sumF L (fun c => if c = b then f c else 0) = f b := by
  induction L with
  | nil => cases hb
  | cons x L ih =>
    rw [List.nodup_cons] at hn
    rw [sumF_cons]
    by_cases e : x = b
    · subst e
      rw [if_pos rfl, sumF_congr (g := fun _ => 0) (fun c hc => if_neg (fun (q : c = x) => hn.1 (q ▸ hc))), sumF_zero]; omega
    · rw [if_neg e, ih hn.2 ((List.mem_cons.mp hb).resolve_left (Ne.symm e))]; omega
/-- at most one of K covers -/
theorem sumF_most {K : List Nat} {q : Nat → Bool} {a : Int} (ha : 0 ≤ a) (h : K.Pairwise fun x y => ¬ (q x = true ∧ q y = true)) : sumF K (fun b => if q b = true then a else 0) ≤ a := by
  induction K with
  | nil => exact ha
  | cons b K ih =>
    rw [List.pairwise_cons] at h
    rw [sumF_cons]
    by_cases e : q b = true
    · rw [if_pos e, sumF_congr (g := fun _ => 0) (fun c hc => if_neg (fun z => h.1 c hc ⟨e, z⟩)), sumF_zero]; omega
    · rw [if_neg e]; have := ih h.2; omega
theorem sumF_just {K : List Nat} {q : Nat → Bool} {a : Int} (h : K.Pairwise fun x y => ¬ (q x = true ∧ q y = true)) (ex : a = 0 ∨ ∃ b ∈ K, q b = true) : sumF K (fun b => if q b = true then a else 0) = a := by
  rcases ex with rfl | ex
  · rw [sumF_congr (g := fun _ => 0) (fun c hc => by split <;> rfl), sumF_zero]
  · induction K with
    | nil => obtain ⟨b, hb, _⟩ := ex; cases hb
    | cons b K ih =>
      rw [List.pairwise_cons] at h
      rw [sumF_cons]
      by_cases e : q b = true
      · rw [if_pos e, sumF_congr (g := fun _ => 0) (fun c hc => if_neg (fun z => h.1 c hc ⟨e, z⟩)), sumF_zero]; omega
      · rw [if_neg e]
        obtain ⟨c, hc, hq⟩ := ex
        rcases List.mem_cons.mp hc with rfl | hc
        · exact absurd hq e
        · rw [ih h.2 ⟨c, hc, hq⟩]; omega
/-- sums by names -/
theorem sumF_names {W : List (Option Str)} {ns : List Str} (hn : ns.Nodup) (L : List Nat) (f : Nat → Int) (h : ∀ b ∈ L, ∃ s ∈ ns, W.getD b none = some s) : (ns.map fun s => sumF (L.filter fun b => decide (W.getD b none = some s)) f).sum = sumF L f := by
  induction L with
  | nil =>
    rw [sumF_nil]
    clear h hn
    induction ns with
    | nil => rfl
    | cons n ns ih => rw [List.map_cons, List.sum_cons, ih]; rfl
  | cons b L ih =>
    rw [sumF_cons, ← ih fun c hc => h c (List.mem_cons_of_mem _ hc)]
    obtain ⟨s, hs, e⟩ := h b (List.mem_cons_self ..)
    clear ih h
    induction ns with
    | nil => cases hs
    | cons n ns ih =>
      rw [List.nodup_cons] at hn
      rw [List.map_cons, List.sum_cons, List.map_cons, List.sum_cons]
      by_cases q : n = s
      · subst q
        rw [List.filter_cons_of_pos (by simpa using e), sumF_cons]
        have : (ns.map fun s => sumF ((b :: L).filter fun b => decide (W.getD b none = some s)) f) = ns.map fun s => sumF (L.filter fun b => decide (W.getD b none = some s)) f := by
          apply List.map_congr_left
          intro s hs2
          rw [List.filter_cons_of_neg]
          simp only [decide_eq_true_eq]
          intro e2
          rw [e] at e2
          cases e2
          exact hn.1 hs2
        rw [this]
        omega
      · rw [List.filter_cons_of_neg (by simp only [decide_eq_true_eq]; intro e2; rw [e] at e2; cases e2; exact q rfl)]
        have := ih hn.2 ((List.mem_cons.mp hs).resolve_left (Ne.symm q))
        omega
/-! ### prices -/
section
variable {lv : Lvs} {W : List (Option Str)} {V : List Int}
def Up (lv : Lvs) : Prop := ∀ (b c : Nat), Sum.inl (b : Int) ∈ lv.getD c [] → b < c
def Cliq (lv : Lvs) : Prop := ∀ (a b c : Nat), a < b → Sum.inl (a : Int) ∈ lv.getD c [] → Sum.inl (b : Int) ∈ lv.getD c [] → Sum.inl (a : Int) ∈ lv.getD b []
theorem price_keep {c : Nat} : ∀ (bs : List Nat) (p : List Int), c ∉ bs → (bs.foldl (priceStep lv W V) p).getD c 0 = p.getD c 0 := by
  intro bs
  induction bs with
  | nil => intro p _; rfl
  | cons b bs ih =>
    intro p h
    rw [List.foldl_cons, ih _ (fun q => h (List.mem_cons_of_mem _ q))]
    unfold priceStep
    rw [List.getD_eq_getElem?_getD, List.getD_eq_getElem?_getD, List.getElem?_set_ne (fun (e : b = c) => h (e ▸ List.mem_cons_self ..))]
    exact (List.getD_eq_getElem?_getD ..).symm
theorem price_len (bs : List Nat) : ∀ (p : List Int), (bs.foldl (priceStep lv W V) p).length = p.length := by
  induction bs with
  | nil => intro p; rfl
  | cons b bs ih => intro p; rw [List.foldl_cons, ih, priceStep_len]
theorem price_zero {c : Nat} (h : c ∉ wishers lv W) : (prices lv W V).getD c 0 = 0 := by
  unfold prices
  rw [price_keep _ _ (fun q => h (List.mem_reverse.mp q)), List.getD_eq_getElem?_getD, List.getElem?_map]
  cases V[c]? <;> rfl
theorem price_eq (up : Up lv) (hv : V.length = W.length) {b : Nat} (hb : b ∈ wishers lv W) : (prices lv W V).getD b 0 = max 0 (V.getD b 0 - sumF (matesOf lv W b (wishers lv W)) fun c => (prices lv W V).getD c 0) := by
  have hbl : b < V.length := by rw [hv]; exact sel_lt hb
  obtain ⟨pre, post, e⟩ := List.append_of_mem (List.mem_reverse.mpr hb)
  have hs : (wishers lv W).reverse.Pairwise (· > ·) := List.pairwise_reverse.mpr (sel_sorted W _)
  rw [e, List.pairwise_append, List.pairwise_cons] at hs
  have hlow : ∀ c, b ≤ c → c ∉ post := fun c h q => by have := hs.2.1.1 c q; omega
  have fin : ∀ c, b < c → (prices lv W V).getD c 0 = (pre.foldl (priceStep lv W V) (V.map fun _ => 0)).getD c 0 := by
    intro c hc
    unfold prices
    rw [e, List.foldl_append, price_keep]
    intro q
    rcases List.mem_cons.mp q with q | q
    · omega
    · exact hlow c (by omega) q
  have hm : sumF (matesOf lv W b (wishers lv W)) (fun c => (prices lv W V).getD c 0) = ((matesOf lv W b (wishers lv W)).map fun c => (pre.foldl (priceStep lv W V) (V.map fun _ => 0)).getD c 0).sum := by
    refine sumF_congr fun c hc => fin c ?_
    have := (List.mem_filter.mp hc).2
    simp only [Bool.and_eq_true, decide_eq_true_eq] at this
    exact up _ _ this.2.2
  rw [hm]
  conv => lhs; unfold prices
  rw [e, List.foldl_append, List.foldl_cons, price_keep _ _ (hlow b (Nat.le_refl _))]
  show ((pre.foldl (priceStep lv W V) (V.map fun _ => 0)).set b _).getD b 0 = _
  rw [List.getD_eq_getElem?_getD, List.getElem?_set_self (by rw [price_len, List.length_map]; exact hbl)]
  rfl
theorem price_pos (up : Up lv) (hv : V.length = W.length) (b : Nat) : 0 ≤ (prices lv W V).getD b 0 := by
  by_cases h : b ∈ wishers lv W
  · rw [price_eq up hv h]; omega
  · rw [price_zero h]; exact Int.le_refl _
def cov (lv : Lvs) (W : List (Option Str)) (b c : Nat) : Bool := decide (c = b) || (decide (c ≠ b) && (decide (W.getD c none = W.getD b none) && decide (Sum.inl (b : Int) ∈ lv.getD c [])))
theorem ws_nodup : (wishers lv W).Nodup := (sel_sorted W _).imp (fun h => Nat.ne_of_lt h)
theorem cov_sum {s : Str} {b : Nat} (hb : b ∈ sameW lv W s) (f : Nat → Int) : sumF (sameW lv W s) (fun c => if cov lv W b c = true then f c else 0) = f b + sumF (matesOf lv W b (wishers lv W)) f := by
  obtain ⟨hw, hs⟩ := List.mem_filter.mp hb
  have hs := of_decide_eq_true hs
  unfold sameW matesOf
  rw [sumF_filter, sumF_filter, ← sumF_one ws_nodup hw f, ← sumF_add]
  refine sumF_congr fun c hc => ?_
  unfold cov
  rw [hs]
  by_cases e : c = b
  · subst e; simp [hs, -List.getD_eq_getElem?_getD]
  · by_cases e2 : W.getD c none = some s
    · by_cases e3 : Sum.inl (b : Int) ∈ lv.getD c [] <;> simp [e, e2, e3, -List.getD_eq_getElem?_getD]
    · simp [e, e2, -List.getD_eq_getElem?_getD]
/-- no two of these clash -/
def Indep (lv : Lvs) (K : List Nat) : Prop := K.Pairwise fun a b => a < b ∧ Sum.inl (a : Int) ∉ lv.getD b []
theorem cov_once (up : Up lv) (cl : Cliq lv) {K : List Nat} (hk : Indep lv K) (hs : ∀ a ∈ K, ∀ b ∈ K, W.getD a none = W.getD b none) (c : Nat) : K.Pairwise fun x y => ¬ (cov lv W x c = true ∧ cov lv W y c = true) := by
  refine (List.Pairwise.and_mem.mp hk).imp ?_
  rintro a b ⟨ha, hb, hab, hn⟩ ⟨h1, h2⟩
  unfold cov at h1 h2
  simp only [Bool.or_eq_true, Bool.and_eq_true, decide_eq_true_eq] at h1 h2
  rcases h2 with rfl | ⟨_, _, h2⟩
  · rcases h1 with h1 | ⟨_, _, h1⟩
    · omega
    · exact hn h1
  · rcases h1 with rfl | ⟨_, _, h1⟩
    · have := up _ _ h2
      omega
    · exact hn (cl a b c hab h1 h2)
/-- duality -/
theorem dual (up : Up lv) (cl : Cliq lv) (hv : V.length = W.length) {s : Str} {K : List Nat} (hk : Indep lv K) (hs : ∀ b ∈ K, b ∈ sameW lv W s) : sumF K (fun b => V.getD b 0) ≤ sumF (sameW lv W s) fun c => (prices lv W V).getD c 0 := by
  have h1 : sumF K (fun b => V.getD b 0) ≤ sumF K fun b => sumF (sameW lv W s) fun c => if cov lv W b c = true then (prices lv W V).getD c 0 else 0 := by
    refine sumF_le fun b hb => ?_
    rw [cov_sum (hs b hb), price_eq up hv (List.mem_filter.mp (hs b hb)).1]
    omega
  rw [sumF_swap] at h1
  refine Int.le_trans h1 (sumF_le fun c hc => ?_)
  refine sumF_most (price_pos up hv c) (cov_once up cl hk (fun a ha b hb => ?_) c)
  rw [of_decide_eq_true (List.mem_filter.mp (hs a ha)).2, of_decide_eq_true (List.mem_filter.mp (hs b hb)).2]
theorem dual_eq (up : Up lv) (cl : Cliq lv) (hv : V.length = W.length) {s : Str} {K : List Nat} (hk : Indep lv K) (hs : ∀ b ∈ K, b ∈ sameW lv W s) (hp : ∀ b ∈ K, 0 < (prices lv W V).getD b 0) (hc : ∀ c ∈ sameW lv W s, (prices lv W V).getD c 0 = 0 ∨ ∃ b ∈ K, cov lv W b c = true) : sumF K (fun b => V.getD b 0) = sumF (sameW lv W s) fun c => (prices lv W V).getD c 0 := by
  have h1 : sumF K (fun b => V.getD b 0) = sumF K fun b => sumF (sameW lv W s) fun c => if cov lv W b c = true then (prices lv W V).getD c 0 else 0 := by
    refine sumF_congr fun b hb => ?_
    have h2 := hp b hb
    have h3 := price_eq up hv (List.mem_filter.mp (hs b hb)).1
    rw [cov_sum (hs b hb)]
    omega
  rw [h1, sumF_swap]
  refine sumF_congr fun c hc2 => sumF_just (cov_once up cl hk (fun a ha b hb => ?_) c) (hc c hc2)
  rw [of_decide_eq_true (List.mem_filter.mp (hs a ha)).2, of_decide_eq_true (List.mem_filter.mp (hs b hb)).2]
/-! ### the kept ones -/
theorem kept_inv (up : Up lv) {p : List Int} : ∀ (bs acc : List Nat), bs.Pairwise (· < ·) → (∀ a ∈ acc, ∀ b ∈ bs, a < b) → (acc.Pairwise fun a b => a < b ∧ ¬ (W.getD a none = W.getD b none ∧ Sum.inl (a : Int) ∈ lv.getD b [])) →
    ∃ K, bs.foldl (keepStep lv W p) acc = acc ++ K ∧ K.Sublist bs ∧ (∀ b ∈ K, 0 < p.getD b 0) ∧ ((acc ++ K).Pairwise fun a b => a < b ∧ ¬ (W.getD a none = W.getD b none ∧ Sum.inl (a : Int) ∈ lv.getD b [])) ∧
    ∀ c ∈ bs, 0 < p.getD c 0 → c ∈ K ∨ ∃ b ∈ acc ++ K, W.getD b none = W.getD c none ∧ Sum.inl (b : Int) ∈ lv.getD c [] := by
  intro bs
  induction bs with
  | nil => intro acc _ _ h; exact ⟨[], by simp, List.Sublist.refl _, (fun _ h => nomatch h), by simpa using h, (fun _ h => nomatch h)⟩
  | cons b bs ih =>
    intro acc hs hlt hp
    rw [List.pairwise_cons] at hs
    rw [List.foldl_cons]
    unfold keepStep
    by_cases hc : 0 < p.getD b 0 ∧ (hurt lv W acc b).isEmpty = true
    · rw [if_pos hc]
      have hh : ∀ a ∈ acc, ¬ (W.getD a none = W.getD b none ∧ Sum.inl (a : Int) ∈ lv.getD b []) := by
        rintro a ha ⟨h1, h2⟩
        have h3 := List.isEmpty_iff.mp hc.2
        unfold hurt at h3
        rw [List.filter_eq_nil_iff] at h3
        exact h3 a ha (by rw [decide_eq_true h1, decide_eq_true h2]; rfl)
      obtain ⟨K, e1, e2, e3, e4, e5⟩ := ih (acc ++ [b]) hs.2 (fun a ha c hc => by
        rcases List.mem_append.mp ha with h | h
        · exact hlt a h c (List.mem_cons_of_mem _ hc)
        · have : a = b := by simpa using h
          rw [this]; exact hs.1 c hc) (List.pairwise_append.mpr ⟨hp, List.pairwise_singleton _ _, fun a ha c hc => by
          have : c = b := by simpa using hc
          rw [this]; exact ⟨hlt a ha b (List.mem_cons_self ..), hh a ha⟩⟩)
      refine ⟨b :: K, ?_, e2.cons₂ b, fun c hc2 => ?_, ?_, fun c hc2 hpos => ?_⟩
      · show bs.foldl (keepStep lv W p) (acc ++ [b]) = _
        rw [e1, List.append_assoc]; rfl
      · rcases List.mem_cons.mp hc2 with rfl | h
        · exact hc.1
        · exact e3 c h
      · rw [List.append_assoc] at e4; exact e4
      · rcases List.mem_cons.mp hc2 with rfl | h
        · exact .inl (List.mem_cons_self ..)
        · rcases e5 c h hpos with h | ⟨x, hx, h⟩
          · exact .inl (List.mem_cons_of_mem _ h)
          · rw [List.append_assoc] at hx; exact .inr ⟨x, hx, h⟩
    · rw [if_neg hc]
      obtain ⟨K, e1, e2, e3, e4, e5⟩ := ih acc hs.2 (fun a ha c hc => hlt a ha c (List.mem_cons_of_mem _ hc)) hp
      refine ⟨K, e1, e2.cons b, e3, e4, fun c hc2 hpos => ?_⟩
      rcases List.mem_cons.mp hc2 with rfl | h
      · right
        have hne : ¬ (hurt lv W acc c).isEmpty = true := fun q => hc ⟨hpos, q⟩
        cases q : hurt lv W acc c with
        | nil => rw [q] at hne; exact absurd rfl hne
        | cons x xs =>
          have hx : x ∈ hurt lv W acc c := by rw [q]; exact List.mem_cons_self ..
          obtain ⟨h1, h2⟩ := List.mem_filter.mp hx
          simp only [Bool.and_eq_true, decide_eq_true_eq] at h2
          exact ⟨x, List.mem_append_left _ h1, h2⟩
      · exact e5 c h hpos
theorem kept_all (up : Up lv) : (kept lv W V).Sublist (wishers lv W) ∧ (∀ b ∈ kept lv W V, 0 < (prices lv W V).getD b 0) ∧ ((kept lv W V).Pairwise fun a b => a < b ∧ ¬ (W.getD a none = W.getD b none ∧ Sum.inl (a : Int) ∈ lv.getD b [])) ∧
    ∀ c ∈ wishers lv W, 0 < (prices lv W V).getD c 0 → c ∈ kept lv W V ∨ ∃ b ∈ kept lv W V, W.getD b none = W.getD c none ∧ Sum.inl (b : Int) ∈ lv.getD c [] := by
  obtain ⟨K, e1, e2, e3, e4, e5⟩ := kept_inv (W := W) up (p := prices lv W V) (wishers lv W) [] (sel_sorted W _) (fun _ h => nomatch h) List.Pairwise.nil
  have e : kept lv W V = K := e1
  rw [e]
  exact ⟨e2, e3, e4, e5⟩
def keptS (lv : Lvs) (W : List (Option Str)) (V : List Int) (s : Str) : List Nat := (kept lv W V).filter fun b => decide (W.getD b none = some s)
theorem keptS_sub (up : Up lv) {s : Str} : (keptS lv W V s).Sublist (sameW lv W s) := (kept_all up).1.filter _
theorem keptS_indep (up : Up lv) {s : Str} : Indep lv (keptS lv W V s) := by
  have h := (kept_all (W := W) (V := V) up).2.2.1.sublist (List.filter_sublist (p := fun b => decide (W.getD b none = some s)))
  refine (List.Pairwise.and_mem.mp h).imp ?_
  rintro a b ⟨ha, hb, h1, h2⟩
  refine ⟨h1, fun h => h2 ⟨?_, h⟩⟩
  rw [of_decide_eq_true (List.mem_filter.mp ha).2, of_decide_eq_true (List.mem_filter.mp hb).2]
theorem keptS_sum (up : Up lv) (cl : Cliq lv) (hv : V.length = W.length) {s : Str} : sumF (keptS lv W V s) (fun b => V.getD b 0) = sumF (sameW lv W s) fun c => (prices lv W V).getD c 0 := by
  refine dual_eq up cl hv (keptS_indep up) (fun b hb => (keptS_sub up).subset hb) (fun b hb => (kept_all up).2.1 b (List.mem_filter.mp hb).1) (fun c hc => ?_)
  have h0 := price_pos up hv (W := W) (V := V) c
  by_cases hz : (prices lv W V).getD c 0 = 0
  · exact .inl hz
  · right
    obtain ⟨hw, hs⟩ := List.mem_filter.mp hc
    rcases (kept_all (V := V) up).2.2.2 c hw (by omega) with h | ⟨b, hb, e, hl⟩
    · exact ⟨c, List.mem_filter.mpr ⟨h, hs⟩, by unfold cov; simp⟩
    · refine ⟨b, List.mem_filter.mpr ⟨hb, ?_⟩, ?_⟩
      · rw [e]; exact hs
      · have := up _ _ hl
        unfold cov
        rw [decide_eq_true (show c ≠ b by omega), decide_eq_true e.symm, decide_eq_true hl]
        simp
/-! ### the lots -/
theorem lot_in {K bs : List Nat} (h : K.Sublist bs) : ∀ (l0 : List Nat) (w0 : Int) (line : List (List Nat × Int)), (l0, w0) ∈ line → Indep lv (l0 ++ K) → (l0 ++ K, w0 + sumF K fun b => V.getD b 0) ∈ bs.foldl (addLot lv V) line := by
  induction h with
  | slnil => intro l0 w0 line h _; rw [List.append_nil, sumF_nil, Int.add_zero]; exact h
  | cons b _ ih => intro l0 w0 line h hi; exact ih l0 w0 _ (List.mem_append_left _ h) hi
  | cons_cons b _ ih =>
    intro l0 w0 line h hi
    rw [List.foldl_cons]
    have := ih (l0 ++ [b]) (w0 + V.getD b 0) (addLot lv V line b) (List.mem_append_right _ (List.mem_map.mpr ⟨(l0, w0), List.mem_filter.mpr ⟨h, ?_⟩, rfl⟩)) (by rw [List.append_assoc]; exact hi)
    · rw [List.append_assoc, Int.add_assoc, ← sumF_cons b _ (fun b => V.getD b 0)] at this
      exact this
    · unfold okLot
      rw [List.isEmpty_iff, List.filter_eq_nil_iff]
      intro a ha q
      exact ((List.pairwise_append.mp hi).2.2 a ha b (List.mem_cons_self ..)).2 (of_decide_eq_true q)
theorem lot_good {S0 : List Nat} : ∀ (bs : List Nat) (line : List (List Nat × Int)), bs.Pairwise (· < ·) → (∀ b ∈ bs, b ∈ S0) → (∀ l ∈ line, Indep lv l.1 ∧ l.2 = sumF l.1 (fun b => V.getD b 0) ∧ (∀ a ∈ l.1, a ∈ S0 ∧ ∀ b ∈ bs, a < b)) → ∀ l ∈ bs.foldl (addLot lv V) line, Indep lv l.1 ∧ l.2 = sumF l.1 (fun b => V.getD b 0) ∧ ∀ a ∈ l.1, a ∈ S0 := by
  intro bs
  induction bs with
  | nil => intro line _ _ h l hl; obtain ⟨a, b, c⟩ := h l hl; exact ⟨a, b, fun x hx => (c x hx).1⟩
  | cons b bs ih =>
    intro line hs hS h
    rw [List.pairwise_cons] at hs
    refine ih _ hs.2 (fun c hc => hS c (List.mem_cons_of_mem _ hc)) (fun l hl => ?_)
    rcases List.mem_append.mp hl with hl | hl
    · obtain ⟨a1, a2, a3⟩ := h l hl
      exact ⟨a1, a2, fun x hx => ⟨(a3 x hx).1, fun c hc => (a3 x hx).2 c (List.mem_cons_of_mem _ hc)⟩⟩
    · obtain ⟨l0, hl0, rfl⟩ := List.mem_map.mp hl
      obtain ⟨hl0, hok⟩ := List.mem_filter.mp hl0
      obtain ⟨a1, a2, a3⟩ := h l0 hl0
      unfold okLot at hok
      rw [List.isEmpty_iff, List.filter_eq_nil_iff] at hok
      refine ⟨?_, ?_, fun x hx => ?_⟩
      · refine List.pairwise_append.mpr ⟨a1, List.pairwise_singleton _ _, fun x hx y hy => ?_⟩
        have : y = b := by simpa using hy
        rw [this]
        exact ⟨(a3 x hx).2 b (List.mem_cons_self ..), fun q => hok x hx (decide_eq_true q)⟩
      · show l0.2 + V.getD b 0 = sumF (l0.1 ++ [b]) _
        rw [sumF_app, a2, sumF_cons, sumF_nil]; omega
      · rcases List.mem_append.mp hx with h1 | h1
        · exact ⟨(a3 x h1).1, fun c hc => (a3 x h1).2 c (List.mem_cons_of_mem _ hc)⟩
        · have : x = b := by simpa using h1
          rw [this]
          exact ⟨hS b (List.mem_cons_self ..), hs.1⟩
theorem bestS_eq (up : Up lv) (cl : Cliq lv) (hv : V.length = W.length) {s : Str} : bestS lv W V s = sumF (sameW lv W s) fun c => (prices lv W V).getD c 0 := by
  symm
  apply best_is
  · rw [← keptS_sum up cl hv]
    have h := lot_in (lv := lv) (V := V) (keptS_sub (W := W) up (s := s) (V := V)) [] 0 [([], 0)] (List.mem_cons_self ..) (keptS_indep up)
    rw [Int.zero_add] at h
    exact List.mem_map.mpr ⟨_, h, rfl⟩
  · intro y hy
    obtain ⟨l, hl, rfl⟩ := List.mem_map.mp hy
    obtain ⟨h1, h2, h3⟩ := lot_good (lv := lv) (V := V) (S0 := sameW lv W s) (sameW lv W s) [([], 0)] ((sel_sorted W _).sublist List.filter_sublist) (fun _ h => h) (fun l hl => by
      simp at hl
      subst hl
      exact ⟨List.Pairwise.nil, rfl, fun _ h => nomatch h⟩) l hl
    rw [h2]
    exact dual up cl hv h1 h3
theorem wish_some {L : List Nat} (h : ∀ b ∈ L, ∃ s, W[b]? = some (some s)) : ∀ b ∈ L, ∃ s ∈ uq (wishL W), W.getD b none = some s := by
  intro b hb
  obtain ⟨s, e⟩ := h b hb
  refine ⟨s, uq_mem.mpr (List.mem_filterMap.mpr ⟨some s, List.mem_of_getElem? e, rfl⟩), ?_⟩
  rw [List.getD_eq_getElem?_getD, e]
  rfl
theorem sel_some {c : Nat → Str → Bool} : ∀ b ∈ sel W c, ∃ s, W[b]? = some (some s) := fun b hb => by
  obtain ⟨s, h, _⟩ := sel_mem.mp hb
  exact ⟨s, h⟩
theorem bestSum_ws (up : Up lv) (cl : Cliq lv) (hv : V.length = W.length) : bestSum lv W V = sumF (wishers lv W) fun c => (prices lv W V).getD c 0 := by
  rw [← sumF_names (uq_nodup (wishL W)) (wishers lv W) _ (wish_some sel_some)]
  unfold bestSum
  congr 1
  apply List.map_congr_left
  intro s _
  exact bestS_eq up cl hv
theorem best_kept (up : Up lv) (cl : Cliq lv) (hv : V.length = W.length) : ((kept lv W V).map fun b => V.getD b 0).sum = bestSum lv W V := by
  show sumF (kept lv W V) _ = _
  rw [← sumF_names (uq_nodup (wishL W)) (kept lv W V) _ (wish_some fun b hb => sel_some b ((kept_all up).1.subset hb))]
  unfold bestSum
  congr 1
  apply List.map_congr_left
  intro s _
  rw [bestS_eq up cl hv]
  exact keptS_sum up cl hv
theorem best_most (up : Up lv) (cl : Cliq lv) (hv : V.length = W.length) {K : List Nat} (hK : ∀ b ∈ K, b ∈ wishers lv W) (hi : K.Pairwise fun a b => a < b ∧ ¬ (W.getD a none = W.getD b none ∧ Sum.inl (a : Int) ∈ lv.getD b [])) : (K.map fun b => V.getD b 0).sum ≤ bestSum lv W V := by
  show sumF K _ ≤ _
  rw [← sumF_names (uq_nodup (wishL W)) K _ (wish_some fun b hb => sel_some b (hK b hb))]
  unfold bestSum
  have key : ∀ s, sumF (K.filter fun b => decide (W.getD b none = some s)) (fun b => V.getD b 0) ≤ bestS lv W V s := by
    intro s
    rw [bestS_eq up cl hv]
    refine dual up cl hv ?_ (fun b hb => ?_)
    · refine (List.Pairwise.and_mem.mp (hi.sublist List.filter_sublist)).imp ?_
      rintro a b ⟨ha, hb, h1, h2⟩
      refine ⟨h1, fun h => h2 ⟨?_, h⟩⟩
      rw [of_decide_eq_true (List.mem_filter.mp ha).2, of_decide_eq_true (List.mem_filter.mp hb).2]
    · obtain ⟨h1, h2⟩ := List.mem_filter.mp hb
      exact List.mem_filter.mpr ⟨hK b h1, h2⟩
  generalize uq (wishL W) = ns
  induction ns with
  | nil => exact Int.le_refl _
  | cons n ns ih =>
    rw [List.map_cons, List.map_cons, List.sum_cons, List.sum_cons]
    have := key n
    omega
theorem sumF_range (L : List Int) : sumF (List.range L.length) (fun c => L.getD c 0) = L.sum := by
  unfold sumF
  congr 1
  apply List.ext_getElem
  · simp
  · intro i h1 h2
    simp at h1
    rw [List.getElem_map, List.getElem_range, List.getD_eq_getElem?_getD, List.getElem?_eq_getElem h1]
    rfl
theorem asc_ext : ∀ (A B : List Nat), A.Pairwise (· < ·) → B.Pairwise (· < ·) → (∀ x, x ∈ A ↔ x ∈ B) → A = B := by
  intro A
  induction A with
  | nil =>
    intro B _ _ h
    cases B with
    | nil => rfl
    | cons y ys => exact absurd ((h y).mpr (List.mem_cons_self ..)) (fun q => nomatch q)
  | cons x xs ih =>
    intro B hA hB h
    cases B with
    | nil => exact absurd ((h x).mp (List.mem_cons_self ..)) (fun q => nomatch q)
    | cons y ys =>
      rw [List.pairwise_cons] at hA hB
      have e : x = y := by
        rcases List.mem_cons.mp ((h x).mp (List.mem_cons_self ..)) with q | q
        · exact q
        · have h1 := hB.1 x q
          rcases List.mem_cons.mp ((h y).mpr (List.mem_cons_self ..)) with q2 | q2
          · exact q2.symm
          · have := hA.1 y q2; omega
      subst e
      congr 1
      refine ih ys hA.2 hB.2 fun z => ⟨fun hz => ?_, fun hz => ?_⟩
      · rcases List.mem_cons.mp ((h z).mp (List.mem_cons_of_mem _ hz)) with q | q
        · subst q; have := hA.1 z hz; omega
        · exact q
      · rcases List.mem_cons.mp ((h z).mpr (List.mem_cons_of_mem _ hz)) with q | q
        · subst q; have := hB.1 z hz; omega
        · exact q
theorem best_prices (up : Up lv) (cl : Cliq lv) (hv : V.length = W.length) : (prices lv W V).sum = bestSum lv W V := by
  rw [bestSum_ws up cl hv, ← sumF_range, prices_len, hv]
  have e : wishers lv W = (List.range W.length).filter fun c => decide (c ∈ wishers lv W) := by
    refine asc_ext _ _ (sel_sorted W _) (List.pairwise_lt_range.sublist List.filter_sublist) fun x => ?_
    rw [List.mem_filter, decide_eq_true_eq, List.mem_range]
    exact ⟨fun h => ⟨sel_lt h, h⟩, fun h => h.2⟩
  rw [e, sumF_filter]
  refine sumF_congr fun c _ => ?_
  by_cases h : c ∈ wishers lv W
  · rw [if_pos (decide_eq_true h)]
  · rw [if_neg (by simpa using h), price_zero h]
end
/-! ### the scene -/
theorem LV_at {S : Scn} {b : Nat} (h : b < S.nm.length) : (LV S).getD b [] = live S b := by
  rw [List.getD_eq_getElem?_getD]
  unfold LV
  rw [List.getElem?_map, List.getElem?_range h]
  rfl
theorem LV_mem {S : Scn} {b : Nat} {k : Key} (h : k ∈ (LV S).getD b []) : k ∈ live S b := by
  by_cases hb : b < S.nm.length
  · rw [LV_at hb] at h; exact h
  · rw [List.getD_eq_getElem?_getD, List.getElem?_eq_none (by rw [LV_len]; omega)] at h; cases h
theorem live_bound {S : Scn} (s : Sound S) {b : Nat} {k : Key} (h : k ∈ live S b) : b < S.nm.length := by
  obtain ⟨u, hu, hb, _⟩ := live_mem.mp h
  have hm : b ∈ u.2 := by
    cases q : mng S.nm u with
    | inl i => rw [q] at hb; exact (List.mem_filter.mp hb).1
    | inr w => rw [q] at hb; exact hb
  exact us_lt s hu hm
theorem LV_up {S : Scn} : Up (LV S) := fun b c h => by
  obtain ⟨x, e, hx⟩ := live_lt (LV_mem h)
  have : b = x := by omega
  omega
theorem LV_cliq {S : Scn} (s : Sound S) : Cliq (LV S) := fun a b c hab h1 h2 => by
  have h1 := LV_mem h1
  have h2 := LV_mem h2
  obtain ⟨u1, hu1, hc1, e1⟩ := live_mem.mp h1
  obtain ⟨u2, hu2, hc2, e2⟩ := live_mem.mp h2
  obtain ⟨m, em, hm⟩ := mng_in e2
  rw [e1] at hc1
  rw [e2] at hc2
  obtain ⟨hc1, _⟩ := List.mem_filter.mp hc1
  obtain ⟨hd2, hbc⟩ := List.mem_filter.mp hc2
  have hbc := of_decide_eq_true hbc
  have hbm : m = b := by omega
  subst hbm
  obtain ⟨j1, hj1⟩ := List.mem_iff_getElem?.mp hc1
  obtain ⟨j2, hj2⟩ := List.mem_iff_getElem?.mp hd2
  have a1 := s.usA u1 hu1 j1 c hj1
  have a2 := s.usA u2 hu2 j2 c hj2
  rw [a1] at a2
  have ht : u1.2.take j1 = u2.2.take j2 := Option.some.inj a2
  obtain ⟨i, hi⟩ := List.mem_iff_getElem?.mp hm
  have hij : i < j2 := by
    have hasc := us_asc s hu2
    rw [List.pairwise_iff_getElem] at hasc
    obtain ⟨l1, g1⟩ := List.getElem?_eq_some_iff.mp hi
    obtain ⟨l2, g2⟩ := List.getElem?_eq_some_iff.mp hj2
    rcases Nat.lt_trichotomy i j2 with h | h | h
    · exact h
    · subst h; rw [g1] at g2; omega
    · have := hasc j2 i l2 l1 h; omega
  have hb1 : m ∈ u1.2 := by
    have : m ∈ u2.2.take j2 := List.mem_iff_getElem?.mpr ⟨i, by rw [List.getElem?_take, if_pos hij]; exact hi⟩
    rw [← ht] at this
    exact List.mem_of_mem_take this
  have hin : Sum.inl (a : Int) ∈ live S m := live_mem.mpr ⟨u1, hu1, by rw [e1]; exact List.mem_filter.mpr ⟨hb1, decide_eq_true (by omega)⟩, e1⟩
  rw [LV_at (live_bound s hin)]
  exact hin
/-- a right naming's kept binders do not clash -/
theorem keptB_ok {S : Scn} {W : List (Option Str)} {xs : List Str} (hl : W.length = S.nm.length) (hr : ∀ b m, m ∈ live S b → xs[b]? ≠ some (nmf xs m)) : (∀ b ∈ keptB W xs, b ∈ wishers (LV S) W) ∧ (keptB W xs).Pairwise fun a b => a < b ∧ ¬ (W.getD a none = W.getD b none ∧ Sum.inl (a : Int) ∈ (LV S).getD b []) := by
  have wh : ∀ b ∈ keptB W xs, ∃ s, W[b]? = some (some s) ∧ xs[b]? = some s := fun b hb => by
    obtain ⟨s, h1, h2⟩ := sel_mem.mp hb
    exact ⟨s, h1, (of_decide_eq_true h2).symm⟩
  refine ⟨fun b hb => ?_, ?_⟩
  · obtain ⟨s, h1, h2⟩ := wh b hb
    refine sel_mem.mpr ⟨s, h1, ?_⟩
    simp only [Bool.not_eq_true', decide_eq_false_iff_not]
    intro h
    exact hr b _ (LV_mem h) h2
  · refine (List.Pairwise.and_mem.mp (sel_sorted W _)).imp ?_
    rintro a b ⟨ha, hb, hlt⟩
    refine ⟨hlt, ?_⟩
    rintro ⟨he, hin⟩
    obtain ⟨s, h1, h2⟩ := wh a ha
    obtain ⟨s', h1', h2'⟩ := wh b hb
    rw [List.getD_eq_getElem?_getD, List.getD_eq_getElem?_getD, h1, h1'] at he
    have he : s = s' := Option.some.inj he
    subst he
    refine hr b _ (LV_mem hin) ?_
    rw [h2']
    show some s = some (xs.getD (Int.toNat (a : Nat)) "")
    rw [Int.toNat_natCast, List.getD_eq_getElem?_getD, h2]
    rfl
theorem live_noCatch {S : Scn} {xs : List Str} (h : NoCatch S xs) : ∀ b m, m ∈ live S b → xs[b]? ≠ some (nmf xs m) := by
  intro b m hm
  obtain ⟨u, hu, hb, e⟩ := live_mem.mp hm
  rw [← e]
  exact h u hu b hb
/-! ### the told naming -/
section
variable {t : Tr} {W : List (Option Str)} {V : List Int}
theorem told_get {S : Scn} {b : Nat} (hb : b < W.length) : (told S W V)[b]? = some (toldAt W (kept (LV S) W V) (spareN S W) b) := by
  unfold told toldL
  rw [List.getElem?_map, List.getElem?_range hb]
  rfl
theorem cntK_lt {K : List Nat} {a b : Nat} (h : a < b) (ha : a ∉ K) : cntK K a < cntK K b := by
  have mono : ∀ n, cntK K (a + 1) ≤ cntK K (a + 1 + n) := by
    intro n
    induction n with
    | zero => exact Nat.le_refl _
    | succ n ih => rw [← Nat.add_assoc, cntK_succ K (a + 1 + n)]; omega
  have h1 := cntK_succ K a
  rw [if_neg ha] at h1
  have h2 := mono (b - (a + 1))
  rw [show a + 1 + (b - (a + 1)) = b by omega] at h2
  omega
theorem told_facts (ht : TmOk t) (hw : WOk t W) : NamOk t (told (scn t) W V) ∧ keptB W (told (scn t) W V) = kept (LV (scn t)) W V := by
  have h6 := nmN t
  have hU := usN ht.2.1
  have hb6 := ht.2.2
  have snd := sound_scn ht.1
  have hn6 : (scn t).nm.length ≤ 6 := by omega
  have hsl : (spareN (scn t) W).length = W.length := by
    unfold spareN
    rw [List.length_take]
    have := spare_len hU hn6 hw.1
    omega
  have hsp : spareN (scn t) W = (freshL (shutL (scn t) W)).take W.length := by rw [shut_eq]; rfl
  have hspn : (spareN (scn t) W).Nodup := by rw [hsp]; exact (freshL_nodup _).sublist (List.take_sublist _ _)
  have hspo : ∀ s ∈ spareN (scn t) W, OkName s ∧ s ∉ free (scn t) ∧ s ∉ wishL W := fun s hs => by
    rw [hsp] at hs
    obtain ⟨h1, h2⟩ := freshL_ok (List.mem_of_mem_take hs)
    unfold shutL at h2
    rw [List.mem_append, List.mem_append] at h2
    exact ⟨h1, fun h => h2 (.inl (.inl h)), fun h => h2 (.inl (.inr h))⟩
  obtain ⟨k1, k2, k3, k4⟩ := kept_all (W := W) (V := V) (LV_up (S := scn t))
  generalize hK : kept (LV (scn t)) W V = K at k1 k2 k3 k4
  have tk : ∀ b ∈ K, ∃ s, W[b]? = some (some s) ∧ Sum.inr s ∉ (LV (scn t)).getD b [] ∧ (told (scn t) W V)[b]? = some s := by
    intro b hb
    obtain ⟨s, h1, h2⟩ := sel_mem.mp (k1.subset hb)
    refine ⟨s, h1, by simpa [-List.getD_eq_getElem?_getD] using h2, ?_⟩
    rw [told_get (sel_lt (k1.subset hb)), hK]
    unfold toldAt
    rw [if_pos hb, List.getD_eq_getElem?_getD, h1]
    rfl
  have tn : ∀ b, b < W.length → b ∉ K → ∃ h : cntK K b < (spareN (scn t) W).length, (told (scn t) W V)[b]? = some (spareN (scn t) W)[cntK K b] := by
    intro b hb hn
    have hc : cntK K b < (spareN (scn t) W).length := by have := cntK_le K b; omega
    refine ⟨hc, ?_⟩
    rw [told_get hb, hK]
    unfold toldAt
    rw [if_neg hn, List.getD_eq_getElem?_getD, List.getElem?_eq_getElem hc]
    rfl
  have hwish : ∀ {b : Nat} {s : Str}, W[b]? = some (some s) → s ∈ wishL W := fun h => List.mem_filterMap.mpr ⟨_, List.mem_of_getElem? h, rfl⟩
  have tl : (told (scn t) W V).length = W.length := by unfold told toldL; simp
  refine ⟨⟨by rw [tl, hw.1], fun x hx => ?_, noCatch_live fun b m hm => ?_⟩, ?_⟩
  · obtain ⟨b, hb⟩ := List.mem_iff_getElem?.mp hx
    have hbl : b < W.length := by have := (List.getElem?_eq_some_iff.mp hb).1; omega
    by_cases hk : b ∈ K
    · obtain ⟨s, h1, _, h2⟩ := tk b hk
      rw [h2] at hb
      cases hb
      exact hw.2 _ (List.mem_of_getElem? h1)
    · obtain ⟨hc, h2⟩ := tn b hbl hk
      rw [h2] at hb
      cases hb
      exact (hspo _ (List.getElem_mem hc)).1
  · have hbl : b < W.length := by rw [hw.1]; exact live_bound snd hm
    have hLm : m ∈ (LV (scn t)).getD b [] := by rw [LV_at (live_bound snd hm)]; exact hm
    cases m with
    | inr w =>
      show (told (scn t) W V)[b]? ≠ some w
      by_cases hk : b ∈ K
      · obtain ⟨s, h1, h3, h2⟩ := tk b hk
        rw [h2]
        intro e
        cases e
        exact h3 hLm
      · obtain ⟨hc, h2⟩ := tn b hbl hk
        rw [h2]
        intro e
        have := (hspo _ (List.getElem_mem hc)).2.1
        rw [Option.some.inj e] at this
        exact this (live_free hm)
    | inl i =>
      obtain ⟨c, rfl, hcb⟩ := live_lt hm
      have e : nmf (told (scn t) W V) (.inl (c : Nat)) = ((told (scn t) W V)[c]?).getD "" := by
        show (told (scn t) W V).getD (Int.toNat (c : Nat)) "" = _
        rw [Int.toNat_natCast, List.getD_eq_getElem?_getD]
      rw [e]
      have hcl : c < W.length := by omega
      by_cases hk : b ∈ K
      · obtain ⟨s, h1, h3, h2⟩ := tk b hk
        by_cases hk' : c ∈ K
        · obtain ⟨s', h1', h3', h2'⟩ := tk c hk'
          rw [h2, h2']
          intro q
          have q : s = s' := Option.some.inj q
          subst q
          have hpw : c < b ∧ ¬ (W.getD c none = W.getD b none ∧ Sum.inl (c : Int) ∈ (LV (scn t)).getD b []) := by
            obtain ⟨i, hi, ei⟩ := List.getElem_of_mem hk'
            obtain ⟨j, hj, ej⟩ := List.getElem_of_mem hk
            rw [List.pairwise_iff_getElem] at k3
            rcases Nat.lt_trichotomy i j with h | h | h
            · have := k3 i j hi hj h; rw [ei, ej] at this; exact this
            · subst h; rw [ei] at ej; omega
            · have := (k3 j i hj hi h).1; omega
          refine hpw.2 ⟨?_, hLm⟩
          rw [List.getD_eq_getElem?_getD, List.getD_eq_getElem?_getD, h1, h1']
        · obtain ⟨hc, h2'⟩ := tn c hcl hk'
          rw [h2, h2']
          intro q
          have q : s = (spareN (scn t) W)[cntK K c] := Option.some.inj q
          exact (hspo _ (List.getElem_mem hc)).2.2 (q ▸ hwish h1)
      · obtain ⟨hc, h2⟩ := tn b hbl hk
        by_cases hk' : c ∈ K
        · obtain ⟨s', h1', h3', h2'⟩ := tk c hk'
          rw [h2, h2']
          intro q
          have q : (spareN (scn t) W)[cntK K b] = s' := Option.some.inj q
          exact (hspo _ (List.getElem_mem hc)).2.2 (q ▸ hwish h1')
        · obtain ⟨hc', h2'⟩ := tn c hcl hk'
          rw [h2, h2']
          intro q
          have q : (spareN (scn t) W)[cntK K b] = (spareN (scn t) W)[cntK K c] := Option.some.inj q
          have := (List.getElem_inj hspn).mp q
          have := cntK_lt (K := K) hcb hk'
          omega
  · refine asc_ext _ _ (sel_sorted W _) (k3.imp fun h => h.1) fun b => ⟨fun hb => ?_, fun hb => ?_⟩
    · obtain ⟨s, h1, h2⟩ := sel_mem.mp hb
      have h2 := of_decide_eq_true h2
      apply Classical.byContradiction
      intro hk
      obtain ⟨hc, h3⟩ := tn b (sel_lt hb) hk
      rw [h3] at h2
      have := (hspo _ (List.getElem_mem hc)).2.2
      rw [← Option.some.inj h2] at this
      exact this (hwish h1)
    · obtain ⟨s, h1, _, h2⟩ := tk b hb
      exact sel_mem.mpr ⟨s, h1, decide_eq_true h2.symm⟩
end
end Lv

set_option Elab.async false
set_option linter.all false
set_option maxRecDepth 100000
set_option maxHeartbeats 4000000
set_option pp.maxSteps 400
set_option pp.deepTerms false
namespace Lv
open PySem PySem.Spec PyProof.Rows L2 StX
local macro_rules
  | `(tactic| walk_at "lv1") => `(tactic| with_reducible (first
    | refine s_set ?_ | refine s_ret ?_ | refine s_if ?_ | refine s_drop ?_ | refine s_next ?_ | refine s_par ?_ | refine s_par3 ?_ | refine s_subL ?_ | refine s_unl2 ?_ | refine s_tup2 ?_ | refine eg_unl2 ?_ | refine eg_unl3 ?_ | refine eg_tup2 ?_
    | refine ev_var rfl ?_ | refine ev_int ?_ | refine ev_str ?_ | refine ev_bl ?_ | refine ev_non ?_ | refine ev_ref ?_
    | refine ev_lst0 ?_ | refine ev_eqE ?_ | refine ev_neE ?_ | refine ev_op ?_ | refine ev_un ?_ | refine ev_isiLT ?_ | refine ev_isi ?_ | refine ev_cb ?_ | refine ev_chain ?_ | refine ev_andV ?_ | refine ev_orV ?_ | refine ev_notV ?_ | refine ev_if ?_ | refine ev_tup ?_ | refine ev_call ?_
    | refine et_and ?_ | refine et_or ?_ | refine et_not ?_ | refine et_test ?_ | refine et_b ?_ | refine et_yes ?_
    | refine ea_cons ?_ | refine ea_nil ?_
    | refine g_int2 ?_ | refine g_bl ?_ | refine g_int ?_ | refine g_addI ?_ | refine g_eqI ?_ | refine g_eqSt ?_ | refine g_eqSf (by decide +kernel) ?_ | refine g_eqS ?_ | refine g_eqIS ?_ | refine g_eqSI ?_ | refine g_eqNS ?_ | refine g_isn ?_
    | refine g_par ?_ | refine g_par3 ?_ | refine g_neg ?_
    | refine g_ifT ?_ | refine g_ifNT ?_ | refine g_ifNF ?_ | refine g_ifF ?_ | refine g_ifD ?_ ?_ | refine g_ifDN ?_ ?_
    | refine eg_name ?_ | refine eg_setL ?_))
local macro_rules
  | `(tactic| walk_at "lvM") => `(tactic| first | assumption | exact mupd_same)
local macro_rules
  | `(tactic| walk_at "lvW") => `(tactic| with_unfolding_all rfl)
local macro_rules
  | `(tactic| walk_at "lvA") => `(tactic| first | with_unfolding_all rfl | with_unfolding_all exact atI_nat 0 rfl | with_unfolding_all exact atI_nat 1 rfl)
local macro_rules
  | `(tactic| walk_at "lv2") => `(tactic| with_reducible (first
    | refine ⟨_, _, (by walk_at "lvW"), kb_ii, ?_⟩ | refine ⟨_, _, (by walk_at "lvW"), kb_ib, ?_⟩ | refine ⟨_, _, (by walk_at "lvW"), kb_is, ?_⟩ | refine ⟨_, _, (by walk_at "lvW"), kb_ss, ?_⟩ | refine ⟨_, _, (by walk_at "lvW"), kb_tt, ?_⟩
    | refine .inl ⟨_, _, rfl, IsS.q, ?_⟩ | refine .inl ⟨_, _, rfl, IsS.r (by walk_at "lvM"), ?_⟩ | refine .inl ⟨_, _, rfl, IsS.sc, ?_⟩
    | refine .inl ⟨_, _, IsS.q, (by walk_at "lvA"), ?_⟩ | refine .inl ⟨_, _, IsS.r (by walk_at "lvM"), (by walk_at "lvA"), ?_⟩
    | refine .inl (g_int2 (And.intro (CMul.l (by omega) (by omega)) ?_)) | refine .inl (g_int2 (And.intro (CMul.r (by omega) (by omega)) ?_))
    | refine And.intro (CDiv.mk (by omega) (by omega)) ?_ | refine And.intro (by omega) ?_ | refine And.intro (Nat.le_of_ble_eq_true (by walk_at "lvW")) ?_
    | refine .inl ⟨_, _, rfl, ?_⟩
    | refine .inl ⟨_, rfl, ?_⟩ | refine .inr ⟨_, rfl, ?_⟩
    | refine ⟨_, _, _, _, rfl, (by walk_at "lvM"), rfl, (by walk_at "lvW"), ?_⟩
    | refine ⟨_, _, rfl, IsL.q, ?_⟩
    | refine ⟨_, rfl, .inl ⟨_, _, IsS.q, (by walk_at "lvA"), ?_⟩⟩))
local macro_rules
  | `(tactic| walk_at "lvm") => `(tactic| repeat' (first | walk_at "lv1" | (with_reducible refine s_seq ?_) | walk_at "lv2" | dsimp only))
local macro_rules
  | `(tactic| walk_at "lve") => `(tactic| repeat' (first | walk_at "lv1" | (with_reducible refine ev_lst ?_) | walk_at "lv2" | dsimp only))
local macro_rules
  | `(tactic| walk_at "lv") => `(tactic| repeat' (first | walk_at "lv1" | (with_reducible refine ev_lst ?_) | (with_reducible refine s_seq ?_) | walk_at "lv2" | dsimp only))
local macro_rules
  | `(tactic| walk_at "lve0") => `(tactic| repeat' (first
    | (with_reducible first | refine ev_var rfl ?_ | refine ev_int ?_ | refine ev_str ?_ | refine et_test ?_ | refine ev_eqE ?_ | refine ev_op ?_ | refine g_bl ?_ | refine g_eqI ?_ | refine g_eqSt ?_ | refine g_eqSf (by decide +kernel) ?_ | refine g_eqS ?_ | refine g_int ?_ | refine g_ifT ?_ | refine g_ifF ?_ | refine g_ifD ?_ ?_) | walk_at "lv2" | dsimp only))
local macro_rules
  | `(tactic| walk_at "lvx") => `(tactic| repeat' (first | (refine fun hx => absurd hx ?_; (with_reducible fail_if_success assumption); simp; done) | (refine fun _ => ?_; walk_at "lv")))
theorem eq_names {k : Bool} {xs : List Str} (h : ∀ x ∈ xs, OkName x) : EqIs (.sq k (xs.map D.str)) (.sq k (xs.map D.str)) true :=
  eq_refl (n := 1) (Da.sq fun x hx => by
    obtain ⟨s, hs, rfl⟩ := List.mem_map.mp hx
    exact Da.str (h s hs).ok) (by decide)
theorem eq_nats {k : Bool} {xs : List Nat} : EqIs (.sq k (xs.map fun b => D.int (b : Nat))) (.sq k (xs.map fun b => D.int (b : Nat))) true :=
  eq_refl (n := 1) (Da.sq fun x hx => by
    obtain ⟨s, hs, rfl⟩ := List.mem_map.mp hx
    exact Da.int) (by decide)
theorem eq_ints {i j : Int} (h : i = j) : EqIs (.int i) (.int j) true := by subst h; exact .sc rfl rfl rfl (by show decide (V.int i = V.int i) = true; simp)
def W_law_pair_right (CT : Addr) : Fw := fun ds M P => ∃ (t : Tr) (p q : Addr) (X Y : D) (b : Bool) (W : List (Option Str)) (V : List Int), ds = [.ref q, .ref p, dTm CT t, dWs true W, dVs true V] ∧ TmOk t ∧ PgM M p t X Y b ∧ Src M q ∧ p ≠ q ∧ WOk t W ∧ VOk t V ∧ ∀ M', SrcR (mupd M p (pgT t X Y)) q M' → P (.bl true) M'
def N_law_pair_right : List Str := ["_law_source", "_law_page_here", "_law_made_here", "_law_wishes_here", "_law_weights_here", "_law_told", "_law_best_here", "_law_more", "_law_naming", "_law_kept", "_law_weight", "_law_spot", "_law_wish"]
def P_law_pair_right : List Str := ["_law_source", "_law_page_here", "_law_made_here", "_law_wishes_here", "_law_weights_here"]
theorem sc_law_pair_right : FnScope N_law_pair_right P_law_pair_right (defScope s_law_pair_right) := ⟨rfl, rfl, rfl, by decide +kernel, rfl, by decide +kernel, by decide +kernel⟩
theorem h_law_pair_right {z : Cz} {mg : Str → Option Value} {base : Heap} {CF CT : Addr} (G : Gf z mg CF CT) (Dd : Df z mg "_law_pair_right" s_law_pair_right) (H_told_kept : Has z mg base "told_kept" P_told_kept 6 (W_told_kept CT)) (H_law_told_kept : Has z mg base "_law_told_kept" P_law_told_kept 10 W_law_told_kept) (H_is_right : Has z mg base "is_right" P_is_right 4 (W_is_right CT)) (H_law_is_right : Has z mg base "_law_is_right" P_law_is_right 2 W_law_is_right) (H_kept_by : Has z mg base "kept_by" P_kept_by 5 (W_kept_by CT)) (H_law_kept_ones : Has z mg base "_law_kept_ones" P_law_kept_ones 9 W_law_kept_ones) (H_law_best : Has z mg base "_law_best" P_law_best 9 W_law_best) (H_most_kept : Has z mg base "most_kept" P_most_kept 5 (W_most_kept CT)) (H_kept_weight : Has z mg base "kept_weight" P_kept_weight 5 (W_kept_weight CT)) (H_law_right_naming : Has z mg base "_law_right_naming" P_law_right_naming 6 W_law_right_naming) (H_law_one : Has z mg base "_law_one" P_law_one 2 W_on) (H_law_kept_weight : Has z mg base "_law_kept_weight" P_law_kept_weight 1 W_law_kept_weight) : Has z mg base "_law_pair_right" P_law_pair_right (11 + 1) (W_law_pair_right  CT) := by
  refine okDf Dd sc_law_pair_right (fun _ _ _ _ _ _ us hl => match us, hl with | [_, _, _, _, _], _ => rfl) (fun ds M P hw => ?_) (fun f cdv A outer s H E hr ds M P hw => ?_)
  · obtain ⟨t, p, q, X, Y, b, W, V, rfl, _⟩ := hw
    rfl
  obtain ⟨t, p, q, X, Y, b, W, V, rfl, ht, hp, hq, hpq, hw, hv, k⟩ := hw
  refine ⟨_, (pss_cons (ps_set (i := 5) sc_law_pair_right.nd rfl (.inl rfl) (px_call H_told_kept (hr.mono (by omega)) rfl (pa_cons (pv 2) (pa_cons (pv 3) (pa_cons (pv 4) pa_nil))))) (pss_cons (ps_if (PW.pt (pw_or (pt_cmpR (zo_ne z hr) (pv 5) (px_call H_law_told_kept (hr.mono (by omega)) rfl (pa_cons (pv 1) (pa_cons (pv 3) (pa_cons (pv 4) pa_nil)))) (nomark _)) (pw_or (pt_not (pt_val (px_call H_is_right (hr.mono (by omega)) rfl (pa_cons (pv 2) (pa_cons (pv 5) pa_nil))))) (pw_or1 (pt_not (pt_val (px_call H_law_is_right (hr.mono (by omega)) rfl (pa_cons (pv 1) (pa_cons (pv 5) pa_nil))))))))) (pss_one (ps_ret pe_bl)) pss_nil) (pss_cons (ps_if (pt_cmpR (zo_ne z hr) (px_call H_kept_by (hr.mono (by omega)) rfl (pa_cons (pv 2) (pa_cons (pv 3) (pa_cons (pv 5) pa_nil)))) (px_call H_law_kept_ones (hr.mono (by omega)) rfl (pa_cons (pv 1) (pa_cons (pv 3) (pa_cons (pv 4) pa_nil)))) (nomark _)) (pss_one (ps_ret pe_bl)) pss_nil) (pss_cons (ps_set (i := 6) sc_law_pair_right.nd rfl (.inl rfl) (px_call H_law_best (hr.mono (by omega)) rfl (pa_cons (pv 1) (pa_cons (pv 3) (pa_cons (pv 4) pa_nil))))) (pss_cons (ps_if (PW.pt (pw_or (pt_cmpR (zo_ne z hr) (px_call H_most_kept (hr.mono (by omega)) rfl (pa_cons (pv 2) (pa_cons (pv 3) (pa_cons (pv 4) pa_nil)))) (pv 6) (nomark _)) (pw_or1 (pt_cmpR (zo_ne z hr) (px_call H_kept_weight (hr.mono (by omega)) rfl (pa_cons (pv 2) (pa_cons (pv 3) (pa_cons (pv 4) (pa_cons (pv 5) pa_nil))))) (pv 6) (nomark _))))) (pss_one (ps_ret pe_bl)) pss_nil) (pss_cons (ps_for PassesOwn.never rfl (zi_seq z (pe_lst (pa_cons pe_int (pa_cons pe_int pa_nil)))) (pg_name (i := 7) sc_law_pair_right.nd rfl (.inl rfl)) (pss_cons (ps_set (i := 8) sc_law_pair_right.nd rfl (.inr rfl) (px_call H_law_right_naming (hr.mono (by omega)) rfl (pa_cons (pv 0) (pa_cons (pv 1) (pa_cons (pv 7) pa_nil))))) (pss_cons (ps_setLc (i := 9) (own := [("_law_spot", 11), ("_law_wish", 12)]) rfl sc_law_pair_right.nd rfl rfl (sw_true rfl rfl rfl (by decide +kernel)) (zi_enum z G.enumerate (pa_cons (pv 3) pa_nil)) (blkOk_by (N := N_law_pair_right) (sc := defScope s_law_pair_right) (by decide +kernel)) (fun _ _ _ _ _ => (zg_tup (n := 2) z (pgs_cons (pg_name (i := 11) sc_law_pair_right.nd rfl (.inl rfl)) (pgs_cons (pg_name (i := 12) sc_law_pair_right.nd rfl (.inl rfl)) pgs_nil)))) (fun _ _ _ _ _ => (pts_one (PW.pt (pw_and (pt_cmpR ox_notN (pv 12) pe_non (nomark _)) (pw_and1 (pt_cmpR (zo_eq z hr) (pv 12) (zx_ix z (pv 8) (pv 11)) (nomark _))))))) (fun _ _ _ _ _ => (pv 11))) (pss_cons (ps_if (PW.pt (pw_or (pt_cmpR (zo_ne z hr) (px_call H_kept_by (hr.mono (by omega)) rfl (pa_cons (pv 2) (pa_cons (pv 3) (pa_cons (pv 8) pa_nil)))) (pv 9) (nomark _)) (pw_or1 (pt_cmpR (zo_ne z hr) (px_call H_kept_by (hr.mono (by omega)) rfl (pa_cons (pv 2) (pa_cons (pe_callTy (zc_tuple z) rfl G.tuple boot_tuple (pa_cons (pv 3) pa_nil)) (pa_cons (pe_callTy (zc_list z) rfl G.list boot_list (pa_cons (pv 8) pa_nil)) pa_nil)))) (pv 9) (nomark _))))) (pss_one (ps_ret pe_bl)) pss_nil) (pss_cons (ps_set (i := 10) sc_law_pair_right.nd rfl (.inl rfl) (px_call H_kept_weight (hr.mono (by omega)) rfl (pa_cons (pv 2) (pa_cons (pv 3) (pa_cons (pv 4) (pa_cons (px_call H_law_one (hr.mono (by omega)) rfl (pa_cons (pv 0) (pa_cons (pe_lst (pa_cons (pv 8) (pa_cons (pe_callTy (zc_list z) rfl G.list boot_list (pa_cons (pv 8) pa_nil)) pa_nil))) pa_nil))) pa_nil)))))) (pss_one (ps_if (PW.pt (pw_or (pt_cmpR (zo_ne z hr) (pv 10) (px_call H_law_kept_weight (hr.mono (by omega)) rfl (pa_cons (pv 3) (pa_cons (pv 4) (pa_cons (pv 8) pa_nil)))) (nomark _)) (pw_or1 (pt_cmpR ox_gt (pv 10) (pv 6) (nomark _))))) (pss_one (ps_ret pe_bl)) pss_nil))))))) (pss_cons (ps_expr (zx_bm z PySem.F.plainAttrs_list PySem.F.slot_list_append PySem.F.type_list_append xm_append (px_call H_kept_by (hr.mono (by omega)) rfl (pa_cons (pv 2) (pa_cons (pv 3) (pa_cons (pv 5) pa_nil)))) (pa_cons pe_non pa_nil))) (pss_one (ps_ret (pe_cmpR (zo_eq z hr) (px_call H_kept_by (hr.mono (by omega)) rfl (pa_cons (pv 2) (pa_cons (pv 3) (pa_cons (pv 5) pa_nil)))) (px_call H_law_kept_ones (hr.mono (by omega)) rfl (pa_cons (pv 1) (pa_cons (pv 3) (pa_cons (pv 4) pa_nil)))) (nomark _))))))))))), ?_⟩
  have h6 := nmN t
  have hb6 := ht.2.2
  have snd := sound_scn ht.1
  have hvl : V.length = W.length := by rw [hv.1, hw.1]
  have hWl : W.length ≤ 6 := by rw [hw.1]; omega
  have up := LV_up (S := scn t)
  have cl := LV_cliq snd
  obtain ⟨hnam, hkb⟩ := told_facts (V := V) ht hw
  have hbk := best_kept (V := V) up cl hvl
  have hbp := best_prices (V := V) up cl hvl
  refine EVS.forget ?_
  have eqn : ∀ {γ : Prop}, (false = true) → γ := fun q => nomatch q
  refine s_seq ?_
  walk_at "lve"
  refine ⟨t, true, true, W, V, rfl, ht, hw, hv, ?_⟩
  generalize hxs : told (scn t) W V = xs at hnam hkb
  refine s_seq ?_
  walk_at "lve"
  refine ⟨t, p, X, Y, b, true, true, W, V, rfl, ht, hp, hw, hvl, ?_⟩
  rw [hxs]
  generalize hM1 : mupd M p (pgT t X Y) = M1 at k
  have hp1 : PgM M1 p t X Y true := by rw [← hM1]; exact pgT_at
  have hq1 : Src M1 q := by rw [← hM1]; exact hq.upd hpq
  refine ⟨true, eq_names hnam.2.1, _, rfl, (fun q => nomatch q), fun _ => ?_⟩
  walk_at "lve"
  refine ⟨t, false, xs, rfl, ht, hnam, ?_⟩
  refine ⟨_, rfl, (fun q => nomatch q), fun _ => ?_⟩
  walk_at "lve"
  refine ⟨t, p, X, Y, true, false, xs, rfl, ht, hp1, hnam, ?_⟩
  refine ⟨_, rfl, (fun q => nomatch q), fun _ => s_next ?_⟩
  refine s_seq ?_
  walk_at "lve"
  refine ⟨t, true, false, W, xs, rfl, ht, hw, hnam, ?_⟩
  rw [hkb]
  have hkl : (kept (LV (scn t)) W V).length ≤ 100 := by
    rw [← hkb]
    exact Nat.le_trans (sel_len _ _) (by omega)
  refine ⟨by rw [List.length_map]; exact szl (by omega), .inl ?_⟩
  walk_at "lve"
  refine ⟨t, p, X, Y, true, true, true, W, V, rfl, ht, hp1, hw.1, hvl, ?_⟩
  rw [pgT_re hp1]
  refine ⟨true, eq_nats, _, rfl, (fun q => nomatch q), fun _ => s_next ?_⟩
  refine s_seq ?_
  walk_at "lve"
  refine ⟨t, p, X, Y, true, true, W, V, rfl, ht, hp1, hw.1, hvl, ?_⟩
  refine s_seq ?_
  walk_at "lve"
  refine ⟨t, true, true, W, V, rfl, ht, hw, hv, ?_⟩
  refine ev_var rfl ⟨true, eq_ints hbp, _, rfl, (fun q => nomatch q), fun _ => ?_⟩
  walk_at "lve"
  refine ⟨t, true, false, true, W, V, xs, rfl, ht, hw, hv, hnam, ?_⟩
  refine ev_var rfl ⟨true, eq_ints (by rw [hkb]; exact hbk), _, rfl, (fun q => nomatch q), fun _ => s_next ?_⟩
  generalize hB : bestSum (LV (scn t)) W V = B
  refine s_seq (s_for (js := [7]) (ei_seq (ev_lst (ea_cons (ev_int (ea_cons (ev_int (ea_nil ⟨Nat.le_of_ble_eq_true rfl, ?_⟩))))))))
  refine ⟨_, .q, fun i γ m => ∃ c7 c8 c9 c10 c11 c12, γ = [some (.ref q), some (.ref p), some (dTm CT t), some (dWs true W), some (dVs true V), some (.sq false (xs.map D.str)), some (.int B), c7, c8, c9, c10, c11, c12] ∧ SrcR M1 q m, ⟨_, _, _, _, _, _, rfl, hq1.refl⟩, fun _ _ _ _ _ => .q, ?_, ?_⟩
  · rintro i x γ m hx ⟨c7, c8, c9, c10, c11, c12, rfl, hm⟩
    have hmore : ∃ mo : Nat, x = .int (mo : Nat) ∧ mo ≤ 2 := by
      have := List.mem_of_getElem? hx
      simp only [List.mem_cons, List.not_mem_nil, or_false] at this
      rcases this with rfl | rfl
      · exact ⟨0, rfl, by omega⟩
      · exact ⟨2, rfl, by omega⟩
    obtain ⟨mo, rfl, hmo⟩ := hmore
    refine eg_name (s_seq ?_)
    walk_at "lve"
    refine ⟨t, p, q, X, Y, true, mo, rfl, ht, hp1.src hm hpq, hm.src, hpq, hmo, fun ys M2 hys hM2 => ?_⟩
    refine s_seq (s_set ?_)
    have hyl : W.length = ys.length := by rw [hw.1, hys.1]
    refine ev_sel (k := true) (W := W) (fun b s => decide (some s = ys[b]?)) (by simp) (by simp) (by omega) (ev_var rfl ⟨rfl, rfl⟩) (fun x y => rfl) (fun x y => rfl) (fun b s hb => ?_) ⟨?_, .inl ?_⟩
    · have hb' : b < ys.length := by rw [← hyl]; exact (List.getElem?_eq_some_iff.mp hb).1
      refine et_test (ev_op (ev_var rfl (ev_op (ev_var rfl (ev_var rfl ⟨_, rfl, .inl ⟨_, .str ys[b], .q, atI_nat b (by rw [List.getElem?_map, List.getElem?_eq_getElem hb']; rfl), ?_⟩⟩)))))
      walk_at "lve"
      refine ⟨?_, rfl⟩
      rw [List.getElem?_eq_getElem hb']
      simp
    · rw [List.length_map]; exact Nat.le_trans (sel_len _ _) (szl (by omega))
    have hke : sel W (fun b s => decide (some s = ys[b]?)) = keptB W ys := rfl
    rw [hke]
    have hkyl : (keptB W ys).length ≤ 100 := Nat.le_trans (sel_len _ _) (by omega)
    refine s_seq ?_
    walk_at "lve"
    refine ⟨t, true, false, W, ys, rfl, ht, hw, hys, by rw [List.length_map]; exact szl (by omega), .inl ?_⟩
    refine ev_var rfl ⟨true, eq_nats, _, rfl, (fun q => nomatch q), fun _ => ?_⟩
    walk_at "lve"
    refine ⟨by rw [List.length_map]; exact szl (by omega), ?_⟩
    refine ea_cons ?_
    walk_at "lve"
    refine ⟨by rw [List.length_map]; exact szl (by omega), .inl ?_⟩
    walk_at "lve"
    refine ⟨t, false, true, W, ys, rfl, ht, hw, hys, by rw [List.length_map]; exact szl (by omega), .inl ?_⟩
    refine ev_var rfl ⟨true, eq_nats, _, rfl, (fun q => nomatch q), fun _ => s_next ?_⟩
    refine s_seq ?_
    walk_at "lve"
    refine ⟨by rw [List.length_map]; exact szl (by have := hys.1; omega), .inl ?_⟩
    refine ea_nil ⟨Nat.le_of_ble_eq_true rfl, ea_nil ?_⟩
    refine ⟨q, _, rfl, hM2.src, by simp, by simp, fun y M3 hy hM3 => ?_⟩
    have hy' : ∃ kk, y = .sq kk (ys.map D.str) := by
      simp only [List.mem_cons, List.not_mem_nil, or_false] at hy
      rcases hy with rfl | rfl
      · exact ⟨_, rfl⟩
      · exact ⟨_, rfl⟩
    obtain ⟨kk, rfl⟩ := hy'
    refine ea_nil ⟨t, true, kk, true, W, V, ys, rfl, ht, hw, hv, hys, ?_⟩
    have hok := keptB_ok hw.1 (live_noCatch hys.2.2)
    have hle : ((keptB W ys).map fun b => V.getD b 0).sum ≤ B := by rw [← hB]; exact best_most up cl hvl hok.1 hok.2
    walk_at "lve"
    refine ⟨true, true, false, W, V, ys, rfl, hyl, hvl, by omega, ?_⟩
    refine ⟨true, eq_ints rfl, _, rfl, (fun q => nomatch q), fun _ => ?_⟩
    refine et_test (ev_op (ev_var rfl (ev_var rfl ⟨_, _, rfl, rfl, _, rfl, fun h1 => ?_, fun h1 => ?_⟩)))
    · have := of_decide_eq_true h1; omega
    · exact s_next ⟨_, _, _, _, _, _, rfl, (hm.trans hM2).trans hM3⟩
  · rintro γ m ⟨c7, c8, c9, c10, c11, c12, rfl, hm⟩
    have hpm : PgM m p t X Y true := hp1.src hm hpq
    refine s_seq (s_drop (ev_bm ?_))
    walk_at "lve"
    refine ⟨t, true, false, W, xs, rfl, ht, hw, hnam, by rw [hkb, List.length_map]; exact szl (by omega), .inr fun r hr => ?_⟩
    refine ⟨⟨_, .inl ⟨r, rfl, mupd_same⟩⟩, ea_cons (ev_non (ea_nil ⟨r, _, rfl, mupd_same, _, rfl, by rw [List.length_map, hkb]; simp only [sizeLine]; omega, ?_⟩))⟩
    rw [mupd_mupd]
    have hpr : p ≠ r := fun e => by subst e; rw [show m p = _ from hpm] at hr; cases hr
    have hpm2 : ∀ o, PgM (mupd m r o) p t X Y true := fun o => by unfold PgM; rw [mupd_ne hpr]; exact hpm
    refine s_ret ?_
    walk_at "lve"
    refine ⟨t, true, false, W, xs, rfl, ht, hw, hnam, ?_⟩
    rw [hkb]
    refine ⟨by rw [List.length_map]; exact szl (by omega), .inl ?_⟩
    walk_at "lve"
    refine ⟨t, p, X, Y, true, true, true, W, V, rfl, ht, hpm2 _, hw.1, hvl, ?_⟩
    rw [pgT_re (hpm2 _)]
    refine ⟨true, eq_nats, m, mupd_ex hr, k m hm⟩
end Lv

set_option Elab.async false
set_option linter.all false
set_option maxRecDepth 100000
set_option maxHeartbeats 4000000
set_option pp.maxSteps 400
set_option pp.deepTerms false
namespace Lv
open PySem PySem.Spec PyProof.Rows L2 StX
local macro_rules
  | `(tactic| walk_at "lv1") => `(tactic| with_reducible (first
    | refine s_set ?_ | refine s_ret ?_ | refine s_if ?_ | refine s_drop ?_ | refine s_next ?_ | refine s_par ?_ | refine s_par3 ?_ | refine s_subL ?_ | refine s_unl2 ?_ | refine s_tup2 ?_ | refine eg_unl2 ?_ | refine eg_unl3 ?_ | refine eg_tup2 ?_
    | refine ev_var rfl ?_ | refine ev_int ?_ | refine ev_str ?_ | refine ev_bl ?_ | refine ev_non ?_ | refine ev_ref ?_
    | refine ev_lst0 ?_ | refine ev_eqE ?_ | refine ev_neE ?_ | refine ev_op ?_ | refine ev_un ?_ | refine ev_isiLT ?_ | refine ev_isi ?_ | refine ev_cb ?_ | refine ev_chain ?_ | refine ev_andV ?_ | refine ev_orV ?_ | refine ev_notV ?_ | refine ev_if ?_ | refine ev_tup ?_ | refine ev_call ?_
    | refine et_and ?_ | refine et_or ?_ | refine et_not ?_ | refine et_test ?_ | refine et_b ?_ | refine et_yes ?_
    | refine ea_cons ?_ | refine ea_nil ?_
    | refine g_int2 ?_ | refine g_bl ?_ | refine g_int ?_ | refine g_addI ?_ | refine g_eqI ?_ | refine g_eqSt ?_ | refine g_eqSf (by decide +kernel) ?_ | refine g_eqS ?_ | refine g_eqIS ?_ | refine g_eqSI ?_ | refine g_eqNS ?_ | refine g_isn ?_
    | refine g_par ?_ | refine g_par3 ?_ | refine g_neg ?_
    | refine g_ifT ?_ | refine g_ifNT ?_ | refine g_ifNF ?_ | refine g_ifF ?_ | refine g_ifD ?_ ?_ | refine g_ifDN ?_ ?_
    | refine eg_name ?_ | refine eg_setL ?_))
local macro_rules
  | `(tactic| walk_at "lvM") => `(tactic| first | assumption | exact mupd_same)
local macro_rules
  | `(tactic| walk_at "lvW") => `(tactic| with_unfolding_all rfl)
local macro_rules
  | `(tactic| walk_at "lvA") => `(tactic| first | with_unfolding_all rfl | with_unfolding_all exact atI_nat 0 rfl | with_unfolding_all exact atI_nat 1 rfl)
local macro_rules
  | `(tactic| walk_at "lv2") => `(tactic| with_reducible (first
    | refine ⟨_, _, (by walk_at "lvW"), kb_ii, ?_⟩ | refine ⟨_, _, (by walk_at "lvW"), kb_ib, ?_⟩ | refine ⟨_, _, (by walk_at "lvW"), kb_is, ?_⟩ | refine ⟨_, _, (by walk_at "lvW"), kb_ss, ?_⟩ | refine ⟨_, _, (by walk_at "lvW"), kb_tt, ?_⟩
    | refine .inl ⟨_, _, rfl, IsS.q, ?_⟩ | refine .inl ⟨_, _, rfl, IsS.r (by walk_at "lvM"), ?_⟩ | refine .inl ⟨_, _, rfl, IsS.sc, ?_⟩
    | refine .inl ⟨_, _, IsS.q, (by walk_at "lvA"), ?_⟩ | refine .inl ⟨_, _, IsS.r (by walk_at "lvM"), (by walk_at "lvA"), ?_⟩
    | refine .inl (g_int2 (And.intro (CMul.l (by omega) (by omega)) ?_)) | refine .inl (g_int2 (And.intro (CMul.r (by omega) (by omega)) ?_))
    | refine And.intro (CDiv.mk (by omega) (by omega)) ?_ | refine And.intro (by omega) ?_ | refine And.intro (Nat.le_of_ble_eq_true (by walk_at "lvW")) ?_
    | refine .inl ⟨_, _, rfl, ?_⟩
    | refine .inl ⟨_, rfl, ?_⟩ | refine .inr ⟨_, rfl, ?_⟩
    | refine ⟨_, _, _, _, rfl, (by walk_at "lvM"), rfl, (by walk_at "lvW"), ?_⟩
    | refine ⟨_, _, rfl, IsL.q, ?_⟩
    | refine ⟨_, rfl, .inl ⟨_, _, IsS.q, (by walk_at "lvA"), ?_⟩⟩))
local macro_rules
  | `(tactic| walk_at "lvm") => `(tactic| repeat' (first | walk_at "lv1" | (with_reducible refine s_seq ?_) | walk_at "lv2" | dsimp only))
local macro_rules
  | `(tactic| walk_at "lve") => `(tactic| repeat' (first | walk_at "lv1" | (with_reducible refine ev_lst ?_) | walk_at "lv2" | dsimp only))
local macro_rules
  | `(tactic| walk_at "lv") => `(tactic| repeat' (first | walk_at "lv1" | (with_reducible refine ev_lst ?_) | (with_reducible refine s_seq ?_) | walk_at "lv2" | dsimp only))
local macro_rules
  | `(tactic| walk_at "lve0") => `(tactic| repeat' (first
    | (with_reducible first | refine ev_var rfl ?_ | refine ev_int ?_ | refine ev_str ?_ | refine et_test ?_ | refine ev_eqE ?_ | refine ev_op ?_ | refine g_bl ?_ | refine g_eqI ?_ | refine g_eqSt ?_ | refine g_eqSf (by decide +kernel) ?_ | refine g_eqS ?_ | refine g_int ?_ | refine g_ifT ?_ | refine g_ifF ?_ | refine g_ifD ?_ ?_) | walk_at "lv2" | dsimp only))
local macro_rules
  | `(tactic| walk_at "lvx") => `(tactic| repeat' (first | (refine fun hx => absurd hx ?_; (with_reducible fail_if_success assumption); simp; done) | (refine fun _ => ?_; walk_at "lv")))
def Sub (M m : Mem) : Prop := ∀ a o, M a = some o → m a = some o
theorem Sub.upd {M m : Mem} {q : Addr} {o : MO} (h : Sub M m) (hq : M q = none) : Sub M (mupd m q o) := fun a u e => by
  have hne : a ≠ q := fun x => by subst x; rw [hq] at e; cases e
  rw [mupd_ne hne]
  exact h a u e
theorem Sub.src {M m m' : Mem} {q : Addr} (h : Sub M m) (hq : M q = none) (s : SrcR m q m') : Sub M m' := by
  obtain ⟨a, b, rfl, _⟩ := s
  exact h.upd hq
theorem Sub.fresh {M m : Mem} {q : Addr} (h : Sub M m) (hq : m q = none) : M q = none := by
  cases e : M q with
  | none => rfl
  | some o => rw [h q o e] at hq; cases hq
theorem none_ws {lv : Lvs} {n : Nat} (c : Nat → Str → Bool) : sel (List.replicate n (none : Option Str)) c = [] := by
  apply List.eq_nil_iff_forall_not_mem.mpr
  intro b hb
  obtain ⟨s, h, _⟩ := sel_mem.mp hb
  rw [List.getElem?_replicate] at h
  split at h <;> cases h
theorem none_prices {lv : Lvs} {n : Nat} {V : List Int} : (prices lv (List.replicate n (none : Option Str)) V).sum = 0 := by
  unfold prices wishers
  rw [none_ws (lv := lv)]
  show (V.map fun _ => (0 : Int)).sum = 0
  induction V with
  | nil => rfl
  | cons v V ih => rw [List.map_cons, List.sum_cons, ih]; rfl
theorem last_le {L : List Nat} (h : L.Pairwise (· < ·)) {c : Nat} (hc : L.getLast? = some c) : ∀ b ∈ L, b ≤ c := by
  intro b hb
  obtain ⟨j, hj, ej⟩ := List.getElem_of_mem hb
  rw [List.getLast?_eq_getElem?] at hc
  obtain ⟨hlt, eb⟩ := List.getElem?_eq_some_iff.mp hc
  rw [List.pairwise_iff_getElem] at h
  rcases Nat.lt_or_ge j (L.length - 1) with q | q
  · have := h j (L.length - 1) hj hlt q
    omega
  · have : j = L.length - 1 := by omega
    subst this
    omega
theorem nam_self {t : Tr} (ht : TmOk t) : NamOk t (scn t).nm := by
  have snd := sound_scn ht.1
  refine ⟨rfl, snd.ok, fun u hu b hb e => ?_⟩
  have hasc : (hits (scn t).nm u).Pairwise (· < ·) := (us_asc snd hu).sublist List.filter_sublist
  unfold mng at hb e
  cases q : (hits (scn t).nm u).getLast? with
  | none =>
    rw [q] at hb e
    have h0 := List.getLast?_eq_none_iff.mp q
    unfold hits at h0
    rw [List.filter_eq_nil_iff] at h0
    exact h0 b hb (decide_eq_true e)
  | some c =>
    rw [q] at hb e
    have hc := List.mem_of_getLast? q
    obtain ⟨_, hc2⟩ := List.mem_filter.mp hc
    have hc2 := of_decide_eq_true hc2
    have e2 : nmf (scn t).nm (.inl (c : Nat)) = u.1 := by
      show (scn t).nm.getD (Int.toNat (c : Nat)) "" = u.1
      rw [Int.toNat_natCast, List.getD_eq_getElem?_getD, hc2]
      rfl
    obtain ⟨h1, h2⟩ := List.mem_filter.mp hb
    have h2 := of_decide_eq_true h2
    have e3 : (scn t).nm[b]? = some u.1 := by rw [← e2]; exact e
    have := last_le hasc q b (List.mem_filter.mpr ⟨h1, decide_eq_true e3⟩)
    omega
theorem flat_rep (n : Nat) (d : D) : (List.replicate n [d]).flatten = List.replicate n d := by
  induction n with
  | zero => rfl
  | succ n ih => rw [List.replicate_succ, List.flatten_cons, ih]; rfl
theorem none_rep (n : Nat) : (List.replicate n [D.non]).flatten = (List.replicate n (none : Option Str)).map dW := by rw [flat_rep, List.map_replicate]; rfl
theorem five_rep (n : Nat) : (List.replicate n [D.int 5]).flatten = (List.replicate n (5 : Int)).map D.int := by rw [flat_rep, List.map_replicate]
def W_law (CT : Addr) : Fw := fun ds M P => ∃ ns : List Int, ds = [.scr ns] ∧ P (.bl true) M
def N_law : List Str := ["_law_script", "_law_k", "_law_source", "_law_tree_here", "_law_page_here", "_law_made_here", "_law_turn", "_law_wishes_here", "_law_weights_here", "_law_none"]
def P_law : List Str := ["_law_script"]
theorem sc_law : FnScope N_law P_law (defScope s_law) := ⟨rfl, rfl, rfl, by decide +kernel, rfl, by decide +kernel, by decide +kernel⟩
theorem h_law {z : Cz} {mg : Str → Option Value} {base : Heap} {CF CT : Addr} (G : Gf z mg CF CT) {fA : Addr} {fdA : FuncData} (Dd : FunD z.K "law" "law" (defArgs s_law) (defBody s_law) (defScope s_law) [] [] fA fdA) (H_law_pool : Has z mg base "_law_pool" P_law_pool 1 W_law_pool) (H_law_small : Has z mg base "_law_small" P_law_small (4 + 2 * 24 + 1) W_law_small) (H_law_page : Has z mg base "_law_page" P_law_page (1 + 26 + 1) W_law_page) (H_law_made : Has z mg base "_law_made" P_law_made (3 + 2 * 25 + 1) (W_law_made CT)) (H_law_wishes : Has z mg base "_law_wishes" P_law_wishes 4 W_law_wishes) (H_law_weights : Has z mg base "_law_weights" P_law_weights 3 W_law_weights) (H_are_wishes : Has z mg base "are_wishes" P_are_wishes 3 (W_are_wishes CT)) (H_are_weights : Has z mg base "are_weights" P_are_weights 4 (W_are_weights CT)) (H_law_pair_right : Has z mg base "_law_pair_right" P_law_pair_right 12 (W_law_pair_right CT)) (H_told_kept : Has z mg base "told_kept" P_told_kept 6 (W_told_kept CT)) (H_most_kept : Has z mg base "most_kept" P_most_kept 5 (W_most_kept CT)) (H_kept_by : Has z mg base "kept_by" P_kept_by 5 (W_kept_by CT)) : FnOk z.P z.w z.K mg base CX0 (60 + 1) fA fdA P_law (spD z (W_law CT)) := by
  refine okD Dd sc_law (fun ds M P hw => ?_) (fun cdv A outer s H E hr ds M P hw => ?_)
  · obtain ⟨ns, rfl, _⟩ := hw
    rfl
  obtain ⟨ns, rfl, k⟩ := hw
  refine ⟨_, (pss_cons (ps_for PassesOwn.never rfl (pi_range1 rfl G.range (pa_cons (pe_callB (zc_max z) rfl G.max boot_max (pa_cons pe_int (pa_cons (pe_callB (cx_min rfl) rfl G.min boot_min (pa_cons (pe_callB (zc_len z) rfl G.len boot_len (pa_cons (pv 0) pa_nil)) (pa_cons pe_int pa_nil))) pa_nil))) pa_nil)) (pg_name (i := 1) sc_law.nd rfl (.inl rfl)) (pss_cons (ps_set (i := 2) sc_law.nd rfl (.inl rfl) (px_call H_law_pool (hr.mono (by omega)) rfl (pa_cons (pv 0) (pa_cons (pv 1) pa_nil)))) (pss_cons (ps_set (i := 3) sc_law.nd rfl (.inl rfl) (px_call H_law_small (hr.mono (by omega)) rfl (pa_cons (pv 2) pa_nil))) (pss_cons (ps_par (i := 4) (j := 5) rfl sc_law.nd rfl rfl (by decide) rfl rfl (pa_cons (px_call H_law_page (hr.mono (by omega)) rfl (pa_cons (pv 3) pa_nil)) (pa_cons (px_call H_law_made (hr.mono (by omega)) rfl (pa_cons (pv 3) pa_nil)) pa_nil)) (by rfl)) (pss_cons (ps_for PassesOwn.never rfl (pi_range1 rfl G.range (pa_cons pe_int pa_nil)) (pg_name (i := 6) sc_law.nd rfl (.inl rfl)) (pss_cons (ps_par (i := 7) (j := 8) rfl sc_law.nd rfl rfl (by decide) rfl rfl (pa_cons (px_call H_law_wishes (hr.mono (by omega)) rfl (pa_cons (pv 2) (pa_cons (pv 4) pa_nil))) (pa_cons (px_call H_law_weights (hr.mono (by omega)) rfl (pa_cons (pv 2) (pa_cons (pv 4) pa_nil))) pa_nil)) (by rfl)) (pss_cons (ps_if (PW.pt (pw_or (pt_not (pt_val (px_call H_are_wishes (hr.mono (by omega)) rfl (pa_cons (pv 5) (pa_cons (pv 7) pa_nil))))) (pw_or1 (pt_not (pt_val (px_call H_are_weights (hr.mono (by omega)) rfl (pa_cons (pv 5) (pa_cons (pv 8) pa_nil)))))))) (pss_one (ps_ret pe_bl)) pss_nil) (pss_cons (ps_if (pt_not (pt_val (px_call H_law_pair_right (hr.mono (by omega)) rfl (pa_cons (pv 2) (pa_cons (pv 4) (pa_cons (pv 5) (pa_cons (pv 7) (pa_cons (pv 8) pa_nil)))))))) (pss_one (ps_ret pe_bl)) pss_nil) (pss_one (ps_if (pt_cmpR (zo_ne z hr) (px_call H_told_kept (hr.mono (by omega)) rfl (pa_cons (pv 5) (pa_cons (pe_callTy (zc_tuple z) rfl G.tuple boot_tuple (pa_cons (pv 7) pa_nil)) (pa_cons (pe_callTy (zc_tuple z) rfl G.tuple boot_tuple (pa_cons (pv 8) pa_nil)) pa_nil)))) (px_call H_told_kept (hr.mono (by omega)) rfl (pa_cons (pv 5) (pa_cons (pv 7) (pa_cons (pv 8) pa_nil)))) (nomark _)) (pss_one (ps_ret pe_bl)) pss_nil)))))) (pss_cons (ps_set (i := 9) sc_law.nd rfl (.inl rfl) (pe_op ox_mul (pe_lst (pa_cons pe_non pa_nil)) (pe_callB (zc_len z) rfl G.len boot_len (pa_cons (pe_dget (hu_of hr) (pv 4) pe_str (fun _ _ => rfl)) pa_nil)))) (pss_one (ps_if (PW.pt (pw_or (pt_cmpR (zo_ne z hr) (px_call H_most_kept (hr.mono (by omega)) rfl (pa_cons (pv 5) (pa_cons (pv 9) (pa_cons (pe_op ox_mul (pe_lst (pa_cons pe_int pa_nil)) (pe_callB (zc_len z) rfl G.len boot_len (pa_cons (pv 9) pa_nil))) pa_nil)))) pe_int (nomark _)) (pw_or1 (pt_cmpR (zo_ne z hr) (px_call H_kept_by (hr.mono (by omega)) rfl (pa_cons (pv 5) (pa_cons (pv 9) (pa_cons (pe_dget (hu_of hr) (pv 4) pe_str (fun _ _ => rfl)) pa_nil)))) (pe_lst pa_nil) (nomark _))))) (pss_one (ps_ret pe_bl)) pss_nil)))))))) (pss_one (ps_ret pe_bl))), ?_⟩
  refine EVS.forget ?_
  refine s_seq (s_for (js := [1]) (ei_rng (ea_cons ?_)))
  walk_at "lve"
  refine ⟨_, _, rfl, ea_nil (.inl ⟨_, _, rfl, ea_nil ?_⟩)⟩
  generalize hn : (if (if (6 : Int) < ((ns.map D.int).length : Int) then (6 : Int) else ((ns.map D.int).length : Int)) > 1 then (if (6 : Int) < ((ns.map D.int).length : Int) then (6 : Int) else ((ns.map D.int).length : Int)) else 1) = n
  have hn6 : 1 ≤ n ∧ n ≤ 6 := by rw [← hn]; split <;> split <;> omega
  refine ⟨n, rfl, by omega, by omega, ?_⟩
  refine ⟨fun i γ m => ∃ c1 c2 c3 c4 c5 c6 c7 c8 c9, γ = [some (.scr ns), c1, c2, c3, c4, c5, c6, c7, c8, c9] ∧ Sub M m, ⟨_, _, _, _, _, _, _, _, _, rfl, fun _ _ e => e⟩, fun _ _ _ _ _ => trivial, ?_, ?_⟩
  · rintro i x γ m hx ⟨c1, c2, c3, c4, c5, c6, c7, c8, c9, rfl, hsub⟩
    have hi : i < 6 := by
      have := (List.getElem?_eq_some_iff.mp hx).1
      simp [rgD] at this
      omega
    have hx2 : x = .int (i : Nat) := by
      have hi2 : i < n.toNat := by
        have := (List.getElem?_eq_some_iff.mp hx).1
        simpa [rgD] using this
      rw [rgD_map, List.getElem?_map, List.getElem?_range hi2] at hx
      cases hx; rfl
    subst hx2
    refine eg_name (s_seq ?_)
    walk_at "lve"
    refine ⟨ns, i, rfl, hi, fun a b ha hb hb2 q hq => ?_⟩
    have hqM := hsub.fresh hq
    have hsub1 : Sub M (mupd m q (.lst [.int a, .int b])) := hsub.upd hqM
    have hsrc1 : Src (mupd m q (.lst [.int a, .int b])) q := ⟨a, b, mupd_same, ha, hb, hb2⟩
    refine s_seq ?_
    walk_at "lve"
    refine ⟨q, rfl, hsrc1, fun t m1 ho hno hbi hm1 => ?_⟩
    have ht : TmOk t := ⟨ho, hno, hbi⟩
    have hsub2 := hsub1.src hqM hm1
    refine s_seq ?_
    walk_at "lve"
    refine ⟨t, rfl, ho, hno, fun X Y p hp => ?_⟩
    walk_at "lve"
    refine ⟨t, rfl, ho, hno, hbi, ?_⟩
    have hpM := hsub2.fresh hp
    have hpq : p ≠ q := hm1.src.ne hp
    have h6 := nmN t
    have hpg0 : PgM (mupd m1 p (.dK (pg0 (scn t) X Y))) p t X Y false := by unfold PgM pgk; rw [mupd_same]; simp
    refine ea_nil ⟨_, _, rfl, ?_⟩
    refine s_seq (s_for (js := [6]) (ei_rng (ea_cons (ev_int (ea_nil ⟨2, rfl, by omega, by omega, ?_⟩)))))
    refine ⟨fun j γ m => ∃ b c6 c7 c8 c9, γ = [some (.scr ns), some (.int (i : Nat)), some (.ref q), some (dT t), some (.ref p), some (dTm CT t), c6, c7, c8, c9] ∧ PgM m p t X Y b ∧ Src m q ∧ Sub M m, ⟨false, _, _, _, _, rfl, hpg0, hm1.src.upd hpq, hsub2.upd hpM⟩, fun _ _ _ _ _ => trivial, ?_, ?_⟩
    · rintro j x γ m2 hx ⟨b, c6, c7, c8, c9, rfl, hpg, hsr, hsb⟩
      refine eg_name (s_seq ?_)
      walk_at "lve"
      refine ⟨t, p, q, X, Y, b, rfl, ht, hpg, hsr, hpq, fun W m3 hw hm3 => ?_⟩
      walk_at "lve"
      refine ⟨t, p, q, X, Y, b, rfl, ht, hpg.src hm3 hpq, hm3.src, hpq, fun V m4 hv hm4 => ?_⟩
      refine ea_nil ⟨_, _, rfl, ?_⟩
      have hm5 := hm3.trans hm4
      refine s_seq ?_
      walk_at "lve"
      refine ⟨t, true, W, rfl, ht, hw, ?_⟩
      refine ⟨_, rfl, (fun q => nomatch q), fun _ => ?_⟩
      walk_at "lve"
      refine ⟨t, true, V, rfl, ht, hv, ?_⟩
      refine ⟨_, rfl, (fun q => nomatch q), fun _ => s_next ?_⟩
      refine s_seq ?_
      walk_at "lve"
      refine ⟨t, p, q, X, Y, b, W, V, rfl, ht, hpg.src hm5 hpq, hm5.src, hpq, hw, hv, fun m6 hm6 => ?_⟩
      refine ⟨_, rfl, (fun q => nomatch q), fun _ => s_next ?_⟩
      have hWl : W.length ≤ 6 := by rw [hw.1]; omega
      have hVl : V.length ≤ 6 := by rw [hv.1]; omega
      walk_at "lve"
      refine ⟨by rw [List.length_map]; exact szl (by omega), ?_⟩
      refine ea_cons ?_
      walk_at "lve"
      refine ⟨by rw [List.length_map]; exact szl (by omega), ?_⟩
      refine ea_nil ⟨t, false, false, W, V, rfl, ht, hw, hv, ?_⟩
      walk_at "lve"
      refine ⟨t, true, true, W, V, rfl, ht, hw, hv, ?_⟩
      refine ⟨true, eq_names (told_facts ht hw).1.2.1, _, rfl, (fun q => nomatch q), fun _ => s_next ⟨true, _, _, _, _, rfl, (pgT_at (M := m4)).src hm6 hpq, hm6.src, ?_⟩⟩
      exact ((hsb.src hqM hm5).upd hpM).src hqM hm6
    · rintro γ m2 ⟨b, c6, c7, c8, c9, rfl, hpg, hsr, hsb⟩
      refine s_seq (s_set (ev_op (ev_lst (ea_cons (ev_non (ea_nil ⟨Nat.le_of_ble_eq_true rfl, ev_cb (ea_cons (ev_pg rfl hpg pv_names (ea_nil (.inl ⟨_, _, rfl, .q, ?_⟩))))⟩))))))
      refine .inr ⟨_, _, .q, rfl, by omega, by rw [List.length_map]; omega, ?_, ?_, .inl ?_⟩
      · rw [Int.toNat_natCast, List.length_map]; exact szl (by simp; omega)
      · rw [Int.toNat_natCast, none_rep, List.length_map, List.length_replicate, List.length_map]; exact szl (by omega)
      rw [Int.toNat_natCast, none_rep, List.length_map]
      generalize hW : List.replicate (scn t).nm.length (none : Option Str) = W
      have hWl : W.length = (scn t).nm.length := by rw [← hW, List.length_replicate]
      have hw : WOk t W := ⟨hWl, fun s hs => by rw [← hW] at hs; exact nomatch (List.mem_replicate.mp hs).2⟩
      refine (s_if (et_or (et_test (ev_op (ev_call (ea_cons (ev_var rfl (ea_cons (ev_var rfl (ea_cons (ev_op (ev_lst (ea_cons (ev_int (ea_nil ⟨Nat.le_of_ble_eq_true rfl, ?_⟩)))))))))))))))
      refine ev_cb (ea_cons (ev_var rfl (ea_nil (.inl ⟨_, _, rfl, .q, ?_⟩))))
      refine .inr ⟨_, _, .q, rfl, by omega, by rw [List.length_map]; omega, ?_, ?_, .inl ?_⟩
      · rw [Int.toNat_natCast, List.length_map]; exact szl (by simp; omega)
      · rw [Int.toNat_natCast, five_rep, List.length_map, List.length_replicate, List.length_map]; exact szl (by omega)
      rw [Int.toNat_natCast, five_rep, List.length_map]
      have hv : VOk t (List.replicate W.length (5 : Int)) := ⟨by rw [List.length_replicate, hWl], fun v hv => by rw [(List.mem_replicate.mp hv).2]; omega⟩
      refine ea_nil ⟨t, true, true, W, List.replicate W.length 5, rfl, ht, hw, hv, ?_⟩
      refine ev_int ⟨true, eq_ints (by rw [← hW]; exact none_prices), _, rfl, (fun q => nomatch q), fun _ => ?_⟩
      refine et_test (ev_neE (ev_call (ea_cons (ev_var rfl (ea_cons (ev_var rfl (ea_cons (ev_pg rfl hpg pv_names (ea_nil ?_)))))))))
      have hke : keptB W (scn t).nm = [] := by rw [← hW]; unfold keptB; exact none_ws (lv := LV (scn t)) _
      refine ⟨t, true, true, W, (scn t).nm, rfl, ht, hw, nam_self ht, ?_⟩
      rw [hke]
      refine ⟨Nat.zero_le _, .inl ?_⟩
      refine ⟨_, rfl, ⟨0, by decide, fun x hx => nomatch hx⟩, _, rfl, (fun q => nomatch q), fun _ => s_next ?_⟩
      exact ⟨_, _, _, _, _, _, _, _, _, rfl, hsb⟩
  · rintro γ m ⟨c1, c2, c3, c4, c5, c6, c7, c8, c9, rfl, hsub⟩
    exact s_ret (ev_bl ⟨M, hsub, k⟩)
end Lv

set_option Elab.async false
set_option linter.all false
set_option maxRecDepth 100000
set_option maxHeartbeats 4000000
namespace Lv
open PySem PySem.Spec PyProof.Rows L2 Hd
def zT (K : PySem.W.Frag) : List (Addr × Str) := [((He.cT K ("ordered", none)).2, "ordered" ++ ".<locals>." ++ "<lambda>"), ((He.cT K ("_law_in_order", none)).2, "_law_in_order" ++ ".<locals>." ++ "<lambda>")]
theorem lam_ordered {K : PySem.W.Frag} (hne : (He.cT K ("ordered", none)).2 ≠ (He.cT K ("_law_in_order", none)).2) : ∀ q ∈ zT K, q.1 = (He.cT K ("ordered", none)).2 → q.2 = "ordered" ++ ".<locals>." ++ "<lambda>" := by
  intro q hq e
  simp only [zT, List.mem_cons, List.not_mem_nil, or_false] at hq
  rcases hq with rfl | rfl
  · rfl
  · exact absurd e.symm hne
theorem lam_law_in_order {K : PySem.W.Frag} (hne : (He.cT K ("ordered", none)).2 ≠ (He.cT K ("_law_in_order", none)).2) : ∀ q ∈ zT K, q.1 = (He.cT K ("_law_in_order", none)).2 → q.2 = "_law_in_order" ++ ".<locals>." ++ "<lambda>" := by
  intro q hq e
  simp only [zT, List.mem_cons, List.not_mem_nil, or_false] at hq
  rcases hq with rfl | rfl
  · exact absurd e hne
  · rfl
theorem spots_all {z : Cz} {mg : Str → Option Value} {base : Heap} {CF CT : Addr} (G : Gf z mg CF CT) (Dt : Df z mg "_law_spots" s_law_spots) (H_law_below : Has z mg base "_law_below" P_law_below 1 W_law_below) : ∀ n, Has z mg base "_law_spots" P_law_spots (1 + n) (W_law_spots n)
  | 0 => by
    refine Has.mono (okDf (k := 0) Dt sc_law_spots (fun _ _ _ _ _ _ us hl => match us, hl with | [_, _, _], _ => rfl) (fun ds M P hw => ?_) (fun f cdv A outer s H E hr ds M P hw => ?_)) (by omega)
    · obtain ⟨t, An, A, f, k, rfl, _⟩ := hw
      rfl
    · obtain ⟨t, An, A, f, k, rfl, h, _⟩ := hw
      have := nodes_pos t
      omega
  | n + 1 => Has.mono (h_law_spots G Dt H_law_below (spots_all G Dt H_law_below n)) (by omega)
theorem mkDf {z : Cz} {mg : Str → Option Value} {h : Heap} (X : z.K.In h) (G : h.Ns mainGlobals mg) {x : Str} {st : Stmt} (hd : ∃ fd, FunD z.K x x (defArgs st) (defBody st) (defScope st) [] [] (He.fAd z.K (x, none)) fd) (hg : (He.Fa.glo x).ok z.K = true) : Df z mg x st := by
  obtain ⟨fd, F⟩ := hd
  exact ⟨_, fd, F, He.glo_ok X G hg⟩
theorem mkDfL {z : Cz} {mg : Str → Option Value} {base h : Heap} (X : z.K.In h) (G : h.Ns mainGlobals mg) {x : Str} {st : Stmt} (hd : ∃ fd, FunD z.K x x (defArgs st) (defBody st) (defScope st) [] [] (He.fAd z.K (x, none)) fd) (hg : (He.Fa.glo x).ok z.K = true)
    (TB : LamX.TabB base mg (He.cT z.K (x, none)).1 (He.cT z.K (x, none)).2) (hm : ((He.cT z.K (x, none)).2, x ++ ".<locals>." ++ "<lambda>") ∈ z.T) (hu : ∀ q ∈ z.T, q.1 = (He.cT z.K (x, none)).2 → q.2 = x ++ ".<locals>." ++ "<lambda>") : DfL z mg base x st := by
  obtain ⟨fd, F⟩ := hd
  have hF := F
  obtain ⟨oc, od, dV, kV, doc, pm, an, cdv, ct, osl, rfl, lk, hcd, _, _⟩ := F.ex
  obtain ⟨cc, rfl⟩ := He.codeIn_ref hcd
  exact ⟨_, _, (He.cT z.K (x, none)).1, (He.cT z.K (x, none)).2, hF, He.glo_ok X G hg, by show Value.ref cc = Value.ref (He.codeOf z.K (x, none)); rw [He.codeOf_eq lk rfl], TB, hm, hu⟩
theorem joined {w : World} {h base : Heap} {K : PySem.W.Frag} {mg : Str → Option Value} {Pg : Program} {fA : Addr} {fdA : FuncData} (c : He.SaysX fa fn [] tf exB w h K) (X : K.In h) (G0 : h.Ns mainGlobals mg)
    (FL : FunD K "law" "law" (defArgs s_law) (defBody s_law) (defScope s_law) [] [] fA fdA) (TB : ∀ p ∈ tf.map (He.cT K), LamX.TabB base mg p.1 p.2) : FnOk Pg w K mg base CX0 61 fA fdA P_law (spD ⟨Pg, w, K, zT K⟩ (W_law (He.ga K "Term"))) := by
  have hex := c.more
  unfold exB at hex
  simp only [Bool.and_eq_true, decide_eq_true_eq] at hex
  obtain ⟨x1, x2, x3, x4, x5, x6⟩ := hex
  generalize hz : (⟨Pg, w, K, zT K⟩ : Cz) = z
  have hK : z.K = K := by rw [← hz]
  have hT : z.T = zT K := by rw [← hz]
  have hP : Pg = z.P := by rw [← hz]
  have hw : w = z.w := by rw [← hz]
  subst hK
  subst hP
  subst hw
  generalize hCF : He.ga z.K "Flat" = CF
  generalize hCT : He.ga z.K "Term" = CT at x1 x4 x5 ⊢
  have G : Gf z mg CF CT := {
    len := He.free_ok X G0 (c.t.d.fact 78)
    isinstance := He.free_ok X G0 (c.t.d.fact 79)
    int := He.free_ok X G0 (c.t.d.fact 80)
    bool := He.free_ok X G0 (c.t.d.fact 81)
    str := He.free_ok X G0 (c.t.d.fact 82)
    list := He.free_ok X G0 (c.t.d.fact 83)
    tuple := He.free_ok X G0 (c.t.d.fact 84)
    all := He.free_ok X G0 (c.t.d.fact 85)
    sorted := He.free_ok X G0 (c.t.d.fact 86)
    max := He.free_ok X G0 (c.t.d.fact 87)
    min := He.free_ok X G0 (c.t.d.fact 88)
    sum := He.free_ok X G0 (c.t.d.fact 89)
    range := He.free_ok X G0 (c.t.d.fact 90)
    enumerate := He.free_ok X G0 (c.t.d.fact 91)
    letters := He.str_ok X G0 (c.t.d.fact 92)
    mletters := He.int_ok X G0 (c.t.d.fact 93)
    mnodes := He.int_ok X G0 (c.t.d.fact 94)
    mbinders := He.int_ok X G0 (c.t.d.fact 95)
    mdeep := He.int_ok X G0 (c.t.d.fact 96)
    mweight := He.int_ok X G0 (c.t.d.fact 97)
    flat := by rw [← hCF]; exact He.glo_ok X G0 (c.t.d.fact 76)
    term := by rw [← hCT]; exact He.glo_ok X G0 (c.t.d.fact 77)
    cF := by rw [← hCF]; exact He.cls_ok (c.t.d.fact 98)
    cT := by rw [← hCT]; exact He.cls_ok (c.t.d.fact 104)
    iT := ⟨by rw [← hCT]; exact He.cls_ok (c.t.d.fact 104), x1, x2, x3, x4, x5⟩
    nF := fun f hf => by
      simp only [List.mem_cons, List.not_mem_nil, or_false] at hf
      rw [← hCF]
      rcases hf with rfl | rfl | rfl | rfl
      · exact He.noat_ok (c.t.d.fact 100)
      · exact He.noat_ok (c.t.d.fact 101)
      · exact He.noat_ok (c.t.d.fact 102)
      · exact He.noat_ok (c.t.d.fact 103)
    nT := fun f hf => by
      simp only [List.mem_cons, List.not_mem_nil, or_false] at hf
      rw [← hCT]
      rcases hf with rfl | rfl | rfl | rfl | rfl | rfl | rfl | rfl
      · exact He.noat_ok (c.t.d.fact 106)
      · exact He.noat_ok (c.t.d.fact 107)
      · exact He.noat_ok (c.t.d.fact 108)
      · exact He.noat_ok (c.t.d.fact 109)
      · exact He.noat_ok (c.t.d.fact 110)
      · exact He.noat_ok (c.t.d.fact 111)
      · exact He.noat_ok (c.t.d.fact 112)
      · exact He.noat_ok (c.t.d.fact 113)
  }
  have D_is_whole : Df z mg "is_whole" s_is_whole := mkDf X G0 (c.t.d.def_ 0) (c.t.d.fact 0)
  have D_is_number : Df z mg "is_number" s_is_number := mkDf X G0 (c.t.d.def_ 1) (c.t.d.fact 1)
  have D_is_name : Df z mg "is_name" s_is_name := mkDf X G0 (c.t.d.def_ 2) (c.t.d.fact 2)
  have D_is_line : Df z mg "is_line" s_is_line := mkDf X G0 (c.t.d.def_ 3) (c.t.d.fact 3)
  have D_law_pool : Df z mg "_law_pool" s_law_pool := mkDf X G0 (c.t.d.def_ 43) (c.t.d.fact 39)
  have D_law_take : Df z mg "_law_take" s_law_take := mkDf X G0 (c.t.d.def_ 44) (c.t.d.fact 40)
  have D_law_one : Df z mg "_law_one" s_law_one := mkDf X G0 (c.t.d.def_ 45) (c.t.d.fact 41)
  have D_law_unlike : Df z mg "_law_unlike" s_law_unlike := mkDf X G0 (c.t.d.def_ 46) (c.t.d.fact 42)
  have D_law_words : Df z mg "_law_words" s_law_words := mkDf X G0 (c.t.d.def_ 47) (c.t.d.fact 43)
  have D_law_leaf : Df z mg "_law_leaf" s_law_leaf := mkDf X G0 (c.t.d.def_ 48) (c.t.d.fact 44)
  have D_law_bound : Df z mg "_law_bound" s_law_bound := mkDf X G0 (c.t.d.def_ 50) (c.t.d.fact 46)
  have D_law_grown : Df z mg "_law_grown" s_law_grown := mkDf X G0 (c.t.d.def_ 49) (c.t.d.fact 45)
  have D_law_nested : Df z mg "_law_nested" s_law_nested := mkDf X G0 (c.t.d.def_ 51) (c.t.d.fact 47)
  have D_law_tree : Df z mg "_law_tree" s_law_tree := mkDf X G0 (c.t.d.def_ 52) (c.t.d.fact 48)
  have D_law_small : Df z mg "_law_small" s_law_small := mkDf X G0 (c.t.d.def_ 66) (c.t.d.fact 62)
  have D_law_below : Df z mg "_law_below" s_law_below := mkDf X G0 (c.t.d.def_ 53) (c.t.d.fact 49)
  have D_law_spots : Df z mg "_law_spots" s_law_spots := mkDf X G0 (c.t.d.def_ 54) (c.t.d.fact 50)
  have D_law_page : Df z mg "_law_page" s_law_page := mkDf X G0 (c.t.d.def_ 55) (c.t.d.fact 51)
  have D_are_trees : Df z mg "are_trees" s_are_trees := mkDf X G0 (c.t.d.def_ 9) (c.t.d.fact 9)
  have D_is_tree : Df z mg "is_tree" s_is_tree := mkDf X G0 (c.t.d.def_ 8) (c.t.d.fact 8)
  have D_parts_of : Df z mg "parts_of" s_parts_of := mkDf X G0 (c.t.d.def_ 10) (c.t.d.fact 10)
  have D_deep_of : Df z mg "deep_of" s_deep_of := mkDf X G0 (c.t.d.def_ 11) (c.t.d.fact 11)
  have D_law_made : Df z mg "_law_made" s_law_made := mkDf X G0 (c.t.d.def_ 65) (c.t.d.fact 61)
  have D_look_at_term : Df z mg "look_at_term" s_look_at_term := mkDf X G0 (c.t.d.def_ 16) (c.t.d.fact 12)
  have D_are_such_names : Df z mg "are_such_names" s_are_such_names := mkDf X G0 (c.t.d.def_ 17) (c.t.d.fact 13)
  have D_look_at_names : Df z mg "look_at_names" s_look_at_names := mkDf X G0 (c.t.d.def_ 18) (c.t.d.fact 14)
  have D_name_for : Df z mg "name_for" s_name_for := mkDf X G0 (c.t.d.def_ 19) (c.t.d.fact 15)
  have D_inner : Df z mg "inner" s_inner := mkDf X G0 (c.t.d.def_ 20) (c.t.d.fact 16)
  have D_catches_of : Df z mg "catches_of" s_catches_of := mkDf X G0 (c.t.d.def_ 21) (c.t.d.fact 17)
  have D_is_right : Df z mg "is_right" s_is_right := mkDf X G0 (c.t.d.def_ 22) (c.t.d.fact 18)
  have D_look_at_right : Df z mg "look_at_right" s_look_at_right := mkDf X G0 (c.t.d.def_ 23) (c.t.d.fact 19)
  have D_kept_binders : Df z mg "kept_binders" s_kept_binders := mkDf X G0 (c.t.d.def_ 38) (c.t.d.fact 34)
  have D_are_such_wishes : Df z mg "are_such_wishes" s_are_such_wishes := mkDf X G0 (c.t.d.def_ 27) (c.t.d.fact 23)
  have D_are_wishes : Df z mg "are_wishes" s_are_wishes := mkDf X G0 (c.t.d.def_ 28) (c.t.d.fact 24)
  have D_are_such_weights : Df z mg "are_such_weights" s_are_such_weights := mkDf X G0 (c.t.d.def_ 29) (c.t.d.fact 25)
  have D_are_weights : Df z mg "are_weights" s_are_weights := mkDf X G0 (c.t.d.def_ 30) (c.t.d.fact 26)
  have D_look_at_wishes : Df z mg "look_at_wishes" s_look_at_wishes := mkDf X G0 (c.t.d.def_ 31) (c.t.d.fact 27)
  have D_look_at_both : Df z mg "look_at_both" s_look_at_both := mkDf X G0 (c.t.d.def_ 32) (c.t.d.fact 28)
  have D_wishing : Df z mg "wishing" s_wishing := mkDf X G0 (c.t.d.def_ 33) (c.t.d.fact 29)
  have D_mates_of : Df z mg "mates_of" s_mates_of := mkDf X G0 (c.t.d.def_ 34) (c.t.d.fact 30)
  have D_prices_by : Df z mg "prices_by" s_prices_by := mkDf X G0 (c.t.d.def_ 35) (c.t.d.fact 31)
  have D_kept_of : Df z mg "kept_of" s_kept_of := mkDf X G0 (c.t.d.def_ 36) (c.t.d.fact 32)
  have D_kept_by : Df z mg "kept_by" s_kept_by := mkDf X G0 (c.t.d.def_ 39) (c.t.d.fact 35)
  have D_kept_weight : Df z mg "kept_weight" s_kept_weight := mkDf X G0 (c.t.d.def_ 40) (c.t.d.fact 36)
  have D_each_once : Df z mg "each_once" s_each_once := mkDf X G0 (c.t.d.def_ 4) (c.t.d.fact 4)
  have D_ordered : DfL z mg base "ordered" s_ordered := mkDfL X G0 (c.t.d.def_ 5) (c.t.d.fact 5) (TB _ (List.mem_map.mpr ⟨_, by simp [tf], rfl⟩)) (by rw [hT]; simp [zT]) (by rw [hT]; exact lam_ordered x6)
  have D_law_in_order : DfL z mg base "_law_in_order" s_law_in_order := mkDfL X G0 (c.t.d.def_ 57) (c.t.d.fact 53) (TB _ (List.mem_map.mpr ⟨_, by simp [tf], rfl⟩)) (by rw [hT]; simp [zT]) (by rw [hT]; exact lam_law_in_order x6)
  have D_name_at : Df z mg "name_at" s_name_at := mkDf X G0 (c.t.d.def_ 6) (c.t.d.fact 6)
  have D_first_names : Df z mg "first_names" s_first_names := mkDf X G0 (c.t.d.def_ 7) (c.t.d.fact 7)
  have D_free_of : Df z mg "free_of" s_free_of := mkDf X G0 (c.t.d.def_ 26) (c.t.d.fact 22)
  have D_in_line : Df z mg "in_line" s_in_line := mkDf X G0 (c.t.d.def_ 25) (c.t.d.fact 21)
  have D_all_live : Df z mg "all_live" s_all_live := mkDf X G0 (c.t.d.def_ 24) (c.t.d.fact 20)
  have D_told_by : Df z mg "told_by" s_told_by := mkDf X G0 (c.t.d.def_ 37) (c.t.d.fact 33)
  have D_told_kept : Df z mg "told_kept" s_told_kept := mkDf X G0 (c.t.d.def_ 41) (c.t.d.fact 37)
  have D_most_kept : Df z mg "most_kept" s_most_kept := mkDf X G0 (c.t.d.def_ 42) (c.t.d.fact 38)
  have D_law_free : Df z mg "_law_free" s_law_free := mkDf X G0 (c.t.d.def_ 56) (c.t.d.fact 52)
  have D_law_inside : Df z mg "_law_inside" s_law_inside := mkDf X G0 (c.t.d.def_ 58) (c.t.d.fact 54)
  have D_law_live : Df z mg "_law_live" s_law_live := mkDf X G0 (c.t.d.def_ 59) (c.t.d.fact 55)
  have D_law_all_live : Df z mg "_law_all_live" s_law_all_live := mkDf X G0 (c.t.d.def_ 60) (c.t.d.fact 56)
  have D_law_lives : Df z mg "_law_lives" s_law_lives := mkDf X G0 (c.t.d.def_ 69) (c.t.d.fact 65)
  have D_law_wishers : Df z mg "_law_wishers" s_law_wishers := mkDf X G0 (c.t.d.def_ 70) (c.t.d.fact 66)
  have D_law_mates : Df z mg "_law_mates" s_law_mates := mkDf X G0 (c.t.d.def_ 71) (c.t.d.fact 67)
  have D_law_told_prices : Df z mg "_law_told_prices" s_law_told_prices := mkDf X G0 (c.t.d.def_ 72) (c.t.d.fact 68)
  have D_law_kept_ones : Df z mg "_law_kept_ones" s_law_kept_ones := mkDf X G0 (c.t.d.def_ 73) (c.t.d.fact 69)
  have D_law_wordlist : Df z mg "_law_wordlist" s_law_wordlist := mkDf X G0 (c.t.d.def_ 63) (c.t.d.fact 59)
  have D_law_told_kept : Df z mg "_law_told_kept" s_law_told_kept := mkDf X G0 (c.t.d.def_ 74) (c.t.d.fact 70)
  have D_law_named : Df z mg "_law_named" s_law_named := mkDf X G0 (c.t.d.def_ 61) (c.t.d.fact 57)
  have D_law_wishes : Df z mg "_law_wishes" s_law_wishes := mkDf X G0 (c.t.d.def_ 67) (c.t.d.fact 63)
  have D_law_weights : Df z mg "_law_weights" s_law_weights := mkDf X G0 (c.t.d.def_ 68) (c.t.d.fact 64)
  have D_law_is_right : Df z mg "_law_is_right" s_law_is_right := mkDf X G0 (c.t.d.def_ 62) (c.t.d.fact 58)
  have D_law_right_naming : Df z mg "_law_right_naming" s_law_right_naming := mkDf X G0 (c.t.d.def_ 64) (c.t.d.fact 60)
  have D_law_kept_weight : Df z mg "_law_kept_weight" s_law_kept_weight := mkDf X G0 (c.t.d.def_ 77) (c.t.d.fact 73)
  have D_law_best_of : Df z mg "_law_best_of" s_law_best_of := mkDf X G0 (c.t.d.def_ 75) (c.t.d.fact 71)
  have D_law_best : Df z mg "_law_best" s_law_best := mkDf X G0 (c.t.d.def_ 76) (c.t.d.fact 72)
  have D_law_pair_right : Df z mg "_law_pair_right" s_law_pair_right := mkDf X G0 (c.t.d.def_ 78) (c.t.d.fact 74)
  have D_Flat_add : DfM z CF "add" "Flat.add" s_Flat_add := by rw [← hCF]; obtain ⟨fd, F⟩ := c.t.d.def_ 13; exact ⟨_, fd, F, He.meth_ok (c.t.d.fact 114)⟩
  have D_Term_meant : DfM z CT "meant" "Term.meant" s_Term_meant := by rw [← hCT]; obtain ⟨fd, F⟩ := c.t.d.def_ 15; exact ⟨_, fd, F, He.meth_ok (c.t.d.fact 115)⟩
  have D_Flat_init : DfI z CF "Flat.__init__" s_Flat_init := by rw [← hCF]; obtain ⟨fd, F⟩ := c.t.d.def_ 12; exact ⟨_, fd, F, He.mkr_ok (c.t.d.fact 99)⟩
  have D_Term_init : DfI z CT "Term.__init__" s_Term_init := by rw [← hCT]; obtain ⟨fd, F⟩ := c.t.d.def_ 14; exact ⟨_, fd, F, He.mkr_ok (c.t.d.fact 105)⟩
  have H_is_whole := h_is_whole (base := base) (CF := CF) (CT := CT) G D_is_whole 
  have H_is_number := h_is_number (base := base) (CF := CF) (CT := CT) G D_is_number H_is_whole
  have H_is_name := h_is_name (base := base) (CF := CF) (CT := CT) G D_is_name 
  have H_is_line := h_is_line (base := base) (CF := CF) (CT := CT) G D_is_line 
  have H_law_pool := h_law_pool (base := base) (CF := CF) (CT := CT) G D_law_pool 
  have H_law_take := h_law_take (base := base) (CF := CF) (CT := CT) G D_law_take 
  have H_law_take_tk := Has.imp H_law_take tk_of
  have H_law_one := h_law_one (base := base) (CF := CF) (CT := CT) G D_law_one H_law_take
  have H_law_one_on := Has.imp H_law_one on_of
  have H_law_unlike := h_law_unlike (base := base) (CF := CF) (CT := CT) G D_law_unlike 
  have H_law_words := h_law_words (base := base) (CF := CF) (CT := CT) G D_law_words H_law_one_on
  have H_law_leaf := h_law_leaf (base := base) (CF := CF) (CT := CT) G D_law_leaf H_law_one_on
  have H_law_grown := grown_all (base := base) (CF := CF) (CT := CT) G D_law_grown D_law_bound H_law_one_on H_law_take_tk H_law_leaf 24
  have H_law_nested := h_law_nested (base := base) (CF := CF) (CT := CT) G D_law_nested H_law_one_on H_law_take_tk H_law_leaf
  have H_law_tree := h_law_tree (base := base) (CF := CF) (CT := CT) G D_law_tree H_law_words H_law_take_tk H_law_nested H_law_grown
  have H_law_small := h_law_small (base := base) (CF := CF) (CT := CT) G D_law_small H_law_tree
  have H_law_below := h_law_below (base := base) (CF := CF) (CT := CT) G D_law_below 
  have H_law_spots := spots_all (base := base) (CF := CF) (CT := CT) G D_law_spots H_law_below 25
  have H_law_page := h_law_page (base := base) (CF := CF) (CT := CT) G D_law_page H_law_spots
  have H_is_tree := tree_all (base := base) (CF := CF) (CT := CT) G D_is_tree D_are_trees H_is_name 25 (by omega)
  have H_parts_of := h_parts_of (base := base) (CF := CF) (CT := CT) G D_parts_of 
  have H_deep_of := deep_all (base := base) (CF := CF) (CT := CT) G D_deep_of H_parts_of 25
  have M_add := add_all (base := base) (CF := CF) (CT := CT) G D_Flat_add 25
  have I_Flat := h_Flat_init (base := base) (CF := CF) (CT := CT) G D_Flat_init M_add
  have M_meant := h_Term_meant (base := base) (CF := CF) (CT := CT) G D_Term_meant 
  have I_Term := h_Term_init (base := base) (CF := CF) (CT := CT) G D_Term_init H_is_tree H_deep_of I_Flat M_meant
  have H_law_made := h_law_made (base := base) (CF := CF) (CT := CT) G D_law_made I_Term
  have H_look_at_term := h_look_at_term (base := base) (CF := CF) (CT := CT) G D_look_at_term 
  have H_are_such_names := h_are_such_names (base := base) (CF := CF) (CT := CT) G D_are_such_names H_is_line H_is_name
  have H_look_at_names := h_look_at_names (base := base) (CF := CF) (CT := CT) G D_look_at_names H_look_at_term H_are_such_names
  have H_name_for := h_name_for (base := base) (CF := CF) (CT := CT) G D_name_for 
  have H_inner := h_inner (base := base) (CF := CF) (CT := CT) G D_inner 
  have H_catches_of := h_catches_of (base := base) (CF := CF) (CT := CT) G D_catches_of H_inner H_name_for
  have H_is_right := h_is_right (base := base) (CF := CF) (CT := CT) G D_is_right H_look_at_names H_catches_of
  have H_look_at_right := h_look_at_right (base := base) (CF := CF) (CT := CT) G D_look_at_right H_look_at_names H_catches_of
  have H_kept_binders := h_kept_binders (base := base) (CF := CF) (CT := CT) G D_kept_binders 
  have H_are_such_wishes := h_are_such_wishes (base := base) (CF := CF) (CT := CT) G D_are_such_wishes H_is_line H_is_name
  have H_are_wishes := h_are_wishes (base := base) (CF := CF) (CT := CT) G D_are_wishes H_look_at_term H_are_such_wishes
  have H_are_such_weights := h_are_such_weights (base := base) (CF := CF) (CT := CT) G D_are_such_weights H_is_line H_is_number
  have H_are_weights := h_are_weights (base := base) (CF := CF) (CT := CT) G D_are_weights H_look_at_term H_are_such_weights
  have H_look_at_wishes := h_look_at_wishes (base := base) (CF := CF) (CT := CT) G D_look_at_wishes H_look_at_term H_are_such_wishes
  have H_look_at_both := h_look_at_both (base := base) (CF := CF) (CT := CT) G D_look_at_both H_look_at_wishes H_are_such_weights
  have H_wishing := h_wishing (base := base) (CF := CF) (CT := CT) G D_wishing 
  have H_mates_of := h_mates_of (base := base) (CF := CF) (CT := CT) G D_mates_of 
  have H_prices_by := h_prices_by (base := base) (CF := CF) (CT := CT) G D_prices_by H_wishing H_mates_of
  have H_kept_of := h_kept_of (base := base) (CF := CF) (CT := CT) G D_kept_of H_wishing H_prices_by
  have H_kept_by := h_kept_by (base := base) (CF := CF) (CT := CT) G D_kept_by H_look_at_wishes H_look_at_right H_kept_binders
  have H_kept_weight := h_kept_weight (base := base) (CF := CF) (CT := CT) G D_kept_weight H_look_at_both H_look_at_right H_kept_binders
  have H_each_once := h_each_once (base := base) (CF := CF) (CT := CT) G D_each_once 
  have H_ordered := h_ordered (base := base) (CF := CF) (CT := CT) G D_ordered H_each_once
  have H_law_in_order := h_law_in_order (base := base) (CF := CF) (CT := CT) G D_law_in_order H_law_unlike
  have H_name_at := h_name_at (base := base) (CF := CF) (CT := CT) G D_name_at 
  have H_first_names := h_first_names (base := base) (CF := CF) (CT := CT) G D_first_names H_name_at
  have H_free_of := h_free_of (base := base) (CF := CF) (CT := CT) G D_free_of H_ordered
  have H_in_line := h_in_line (base := base) (CF := CF) (CT := CT) G D_in_line H_ordered
  have H_all_live := h_all_live (base := base) (CF := CF) (CT := CT) G D_all_live H_inner H_in_line
  have H_told_by := h_told_by (base := base) (CF := CF) (CT := CT) G D_told_by H_kept_of H_all_live H_free_of H_first_names
  have H_told_kept := h_told_kept (base := base) (CF := CF) (CT := CT) G D_told_kept H_look_at_both H_told_by
  have H_most_kept := h_most_kept (base := base) (CF := CF) (CT := CT) G D_most_kept H_look_at_both H_all_live H_prices_by
  have H_law_free := h_law_free (base := base) (CF := CF) (CT := CT) G D_law_free H_law_in_order
  have H_law_inside := h_law_inside (base := base) (CF := CF) (CT := CT) G D_law_inside 
  have H_law_live := h_law_live (base := base) (CF := CF) (CT := CT) G D_law_live H_law_inside H_law_unlike H_law_in_order
  have H_law_all_live := h_law_all_live (base := base) (CF := CF) (CT := CT) G D_law_all_live H_law_live
  have H_law_lives := h_law_lives (base := base) (CF := CF) (CT := CT) G D_law_lives H_law_all_live
  have H_law_wishers := h_law_wishers (base := base) (CF := CF) (CT := CT) G D_law_wishers H_law_lives
  have H_law_mates := h_law_mates (base := base) (CF := CF) (CT := CT) G D_law_mates H_law_lives H_law_wishers
  have H_law_told_prices := h_law_told_prices (base := base) (CF := CF) (CT := CT) G D_law_told_prices H_law_wishers H_law_mates
  have H_law_kept_ones := h_law_kept_ones (base := base) (CF := CF) (CT := CT) G D_law_kept_ones H_law_lives H_law_wishers H_law_told_prices
  have H_law_wordlist := h_law_wordlist (base := base) (CF := CF) (CT := CT) G D_law_wordlist 
  have H_law_told_kept := h_law_told_kept (base := base) (CF := CF) (CT := CT) G D_law_told_kept H_law_kept_ones H_law_free H_law_wordlist
  have H_law_named := h_law_named (base := base) (CF := CF) (CT := CT) G D_law_named 
  have H_law_wishes := h_law_wishes (base := base) (CF := CF) (CT := CT) G D_law_wishes H_law_one_on H_law_take_tk H_law_free
  have H_law_weights := h_law_weights (base := base) (CF := CF) (CT := CT) G D_law_weights H_law_one_on
  have H_law_is_right := h_law_is_right (base := base) (CF := CF) (CT := CT) G D_law_is_right H_law_named
  have H_law_right_naming := h_law_right_naming (base := base) (CF := CF) (CT := CT) G D_law_right_naming H_law_all_live H_law_wordlist H_law_free H_law_named H_law_one_on H_law_take_tk
  have H_law_kept_weight := h_law_kept_weight (base := base) (CF := CF) (CT := CT) G D_law_kept_weight 
  have H_law_best_of := h_law_best_of (base := base) (CF := CF) (CT := CT) G D_law_best_of H_law_lives H_law_wishers
  have H_law_best := h_law_best (base := base) (CF := CF) (CT := CT) G D_law_best H_law_unlike H_law_wishers H_law_best_of H_law_told_prices
  have H_law_pair_right := h_law_pair_right (base := base) (CF := CF) (CT := CT) G D_law_pair_right H_told_kept H_law_told_kept H_is_right H_law_is_right H_kept_by H_law_kept_ones H_law_best H_most_kept H_kept_weight H_law_right_naming H_law_one_on H_law_kept_weight
  exact h_law (base := base) (CF := CF) (CT := CT) G FL H_law_pool H_law_small H_law_page H_law_made H_law_wishes H_law_weights H_are_wishes H_are_weights H_law_pair_right H_told_kept H_most_kept H_kept_by
end Lv

set_option Elab.async false
set_option linter.all false
set_option maxRecDepth 100000
set_option maxHeartbeats 0
namespace Lv
open PySem PySem.Spec PyProof.Rows L2 Hd
theorem sp_of {z : Cz} {CT a : Addr} {ns : List Int} {H : Hp} (hT : ∀ p ∈ z.T, H p.1 = some (.tbl #[])) (hS : SqL z.K H a (ns.map V.int)) : spD z (W_law CT) [.ref a] H (fun v _ => v = .bl true) (fun _ _ _ => False) := by
  have tb : LamX.Tabs z.T H := fun p hp => ⟨#[], hT p hp, trivial, fun pos cv hc => (nomatch hc)⟩
  rcases hS with hR | hK
  · have hn : ∀ ps, H a ≠ some (.tbl ps) := fun ps e => by
      rcases hR with q | ⟨o, q⟩
      · rw [q] at e; cases e
      · rw [q] at e; cases e
    refine ⟨fun b => if b = a then H a else none, fun _ => none, fun _ => none, [.scr ns], fun d _ => d = .bl true, .cons (.scr (.inl ?_)) .nil, ⟨fun b o e => ?_, fun b o e => (nomatch e), fun b o e => (nomatch e), fun b ps e => ?_, fun b ps e => (nomatch e), tb⟩, ⟨ns, rfl, rfl⟩, ?_⟩
    · rcases hR with q | ⟨o, q⟩
      · exact .inl ((if_pos rfl).trans q)
      · exact .inr ⟨o, (if_pos rfl).trans q⟩
    · by_cases hb : b = a
      · subst hb
        exact (if_pos rfl).symm.trans e
      · exact nomatch (if_neg hb).symm.trans e
    · by_cases hb : b = a
      · subst hb
        exact hn ps ((if_pos rfl).symm.trans e)
      · exact nomatch (if_neg hb).symm.trans e
    · rintro d M' rfl v B' H' _ r _
      exact r.bl_inv
  · refine ⟨fun _ => none, fun _ => none, fun _ => none, [.scr ns], fun d _ => d = .bl true, .cons (.scr (.inr hK)) .nil, ⟨fun b o e => (nomatch e), fun b o e => (nomatch e), fun b o e => (nomatch e), fun b ps e => (nomatch e), fun b ps e => (nomatch e), tb⟩, ⟨ns, rfl, rfl⟩, ?_⟩
    rintro d M' rfl v B' H' _ r _
    exact r.bl_inv
theorem lawAtS {w : World} {mg : Str → Option Value} {fA : Addr} {h : Heap} {K : PySem.W.Frag} (c : He.SaysX fa fn [] tf exB w h K) (X : K.In h) (G0 : h.Ns mainGlobals mg) (hmg : mg ("law" : Str) = some (.ref fA)) : LamX.LawAtS PySem.Challenge.rw_livenames_k31_whole_most_weight_kept w K (CX0) 61 63 "_law_script" mg fA h := by
  obtain ⟨fd, F⟩ := c.t.d.def_ 79 (d := ds_law) rfl
  have e := hmg.symm.trans (He.glo_ok X G0 (c.t.d.fact 75 (f := .glo "law") rfl))
  cases e
  have b := FunD.bindsA (ps := ["_law_script"]) F fun _ _ _ _ _ _ us hl => match us, hl with | [_], _ => rfl
  refine ⟨fd, tf.map (He.cT K), spD ⟨PySem.Challenge.rw_livenames_k31_whole_most_weight_kept.prog, w, K, zT K⟩ (W_law (He.ga K "Term")), fun p hp => ?_, fun p hp => ?_, fun p hp => ?_, fun s v => b s [v] rfl, fun H a ns _ _ hT hS => sp_of (fun p hp => ?_) hS, fun base _ _ TB => joined c X G0 F TB⟩
  · obtain ⟨q, hq, rfl⟩ := List.mem_map.mp hp
    exact c.empty q hq
  · obtain ⟨q, hq, rfl⟩ := List.mem_map.mp hp
    exact c.out q hq
  · obtain ⟨q, hq, rfl⟩ := List.mem_map.mp hp
    exact PySem.W.codeHd_of_K X (c.hd q hq)
  · have hp' : p ∈ zT K := hp
    simp only [zT, List.mem_cons, List.not_mem_nil, or_false] at hp'
    rcases hp' with rfl | rfl
    · exact hT _ (List.mem_map.mpr ⟨("ordered", none), by simp [tf], rfl⟩)
    · exact hT _ (List.mem_map.mpr ⟨("_law_in_order", none), by simp [tf], rfl⟩)
end Lv
open PySem PySem.W PySem.Calls PyProof.Rows
set_option maxRecDepth 100000 in
theorem PySem.Challenge.cw_livenames_k31_whole_most_weight_kept_holds : PySem.Challenge.rw_livenames_k31_whole_most_weight_kept.Holds := by
  w_on; o_law
  refine HandSHeadRun.head_any (r := Lv.Hd.Rw) (q := PySem.W.view Lv.Hd.Rw.prog [Lv.Hd.lawAt]) (H := Lv.Hd.hk) (ob := Lv.Hd.ob) (M := 6000) (loose := Lv.Hd.loose) (d := HandSHeadRun.topDef Lv.Hd.Rw.prog Lv.Hd.lawAt) (kwd := []) Lv.Hd.ob_eq
    (by kernel_rfl) (fun s => by kernel_rfl) Lv.Hd.run (by kernel_rfl) (by kernel_rfl) (by kernel_rfl) (by rfl) (by first | assumption | decide +kernel) (by decide +kernel) ⟨rfl, rfl, rfl, rfl, rfl, by decide +kernel⟩ ?hw ?hc
  case hw => w_witness2
  case hc =>
    refine LamX.walk_ofTsE (l := PySem.Challenge.rw_livenames_k31_whole_most_weight_kept) (n := 63) (k := 61) (x := "_law_script") (CX := fun _ => L2.CX0) rfl (by decide) (by kernel_rfl) ⟨rfl, by decide, by decide⟩ ?F (fun _ _ _ _ _ z => z)
    intro w mg fa h Y G hmg0
    obtain ⟨K, KX, c⟩ := Y
    have hmg : mg ("law" : PySem.Str) = some (.ref fa) := by
      have e : (HandSHeadRun.topDef Lv.Hd.Rw.prog Lv.Hd.lawAt).name = ("law" : PySem.Str) := by kernel_rfl
      rw [← e]
      exact hmg0
    exact ⟨K, KX, Lv.lawAtS c KX G hmg⟩

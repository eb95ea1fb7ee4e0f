import PyProof.Rows.All
import Wide.All
import OpenK.AllK
import Wide.FinOn
import KE.KStateDown
import HandS.ForMost
import HandS.ForExc
import HandS.Defaults
import HandS.Star
import HandS.IsInst
import HandS.Wide
import HandS.Gcd
import HandS.Zip
import HandS.TupLen
import HandS.DictComp
import HandS.DictTup
import HandS.ListItems
import HandS.Conv
import HandS.Style
import HandS.SortKw
import HandS.SortRule
import HandS.SortInts
import HandS.TupSets
import HandS.RaiseMore
import HandS.More
import HandS.Deep
import HandS.TupAny
import HandS.Head0
import HandS.Head1
import HandS.Head2
import HandS.HeadEnd
import HandS.HeadHook1
import HandS.HeadHook2
import HandS.HeadHook3
import HandS.HeadHook4
import KE.KDictItemsList
import KE.SortKeyHeap
import KE.SortData
import KE.SortLaws
import KE.KSuper
import HandS.Head3
import HandS.SetFor
import KE.KSortKey
import HandS.Nested
import PySem.Challenge.RW_nodice_k56_whole_worst_starts_turned_and
set_option Elab.async false
set_option linter.all false
set_option maxRecDepth 100000
set_option maxHeartbeats 0
namespace Nw
open PySem PySem.Spec PyProof.Rows L2
def top (i : Nat) : Stmt := PySem.Challenge.pw_nodice_k56_whole_worst_starts_turned_and.main.body.getD i (.Pass ⟨0, 0, 0, 0⟩)
abbrev s_is_integer : Stmt := top 11
abbrev s_is_within : Stmt := top 12
abbrev s_are_integers : Stmt := top 13
abbrev s_need_number : Stmt := top 14
abbrev s_is_heap : Stmt := top 20
abbrev s_are_heaps : Stmt := top 21
abbrev s_kept_heaps : Stmt := top 22
abbrev s_colour_in : Stmt := top 23
abbrev s_spots_of : Stmt := top 24
abbrev s_need_heaps : Stmt := top 25
abbrev s_need_colour : Stmt := top 26
abbrev s_need_lefts : Stmt := top 27
abbrev s_need_start : Stmt := top 28
abbrev s_Line_init : Stmt := inClass (top 37) 0
abbrev s_Line_heap_at : Stmt := inClass (top 37) 4
abbrev s_Line_advance : Stmt := inClass (top 37) 5
abbrev s_Line_forward : Stmt := inClass (top 37) 6
abbrev s_line_at : Stmt := top 39
abbrev s_sent_on : Stmt := top 41
abbrev s_is_weight : Stmt := top 47
abbrev s_is_row : Stmt := top 48
abbrev s_are_rows : Stmt := top 49
abbrev s_place_of : Stmt := top 50
abbrev s_colour_at : Stmt := top 51
abbrev s_Look_init : Stmt := inClass (top 52) 0
abbrev s_need_look : Stmt := top 55
abbrev s_weighed : Stmt := top 56
abbrev s_joined_looks : Stmt := top 57
abbrev s_scaled_look : Stmt := top 58
abbrev s_moved_look : Stmt := top 59
abbrev s_least_pair : Stmt := top 62
abbrev s_both : Stmt := top 63
abbrev s_times : Stmt := top 64
abbrev s_turned : Stmt := top 65
abbrev s_is_less : Stmt := top 66
abbrev s_total_of : Stmt := top 67
abbrev s_fixed : Stmt := top 69
abbrev s_Paper_init : Stmt := inClass (top 70) 0
abbrev s_first_counts : Stmt := top 72
abbrev s_row_changes : Stmt := top 73
abbrev s_all_changes : Stmt := top 74
abbrev s_change_in : Stmt := top 75
abbrev s_more_of : Stmt := top 77
abbrev s_with_pick : Stmt := top 78
abbrev s_best_turns : Stmt := top 79
abbrev s_spots_changes : Stmt := top 81
abbrev s_reach_in : Stmt := top 82
abbrev s_reach_of : Stmt := top 83
abbrev s_Worst_init : Stmt := inClass (top 86) 0
abbrev s_added_wish : Stmt := top 87
abbrev s_free_wish : Stmt := top 88
abbrev s_ends_of : Stmt := top 89
abbrev s_later_row : Stmt := top 90
abbrev s_heaps_for : Stmt := top 91
abbrev s_need_near : Stmt := top 92
abbrev s_worst_start : Stmt := top 93
abbrev s_choices : Stmt := top 95
abbrev s_rows_to : Stmt := top 96
abbrev s_mean_in : Stmt := top 97
abbrev s_worth_in : Stmt := top 99
abbrev s_mean_of_look : Stmt := top 100
abbrev s_is_start : Stmt := top 102
abbrev s_shows_worst : Stmt := top 103
abbrev s_law_breeze : Stmt := top 105
abbrev s_law_puff : Stmt := top 106
abbrev s_law_one : Stmt := top 107
abbrev s_law_rows : Stmt := top 108
abbrev s_law_paths : Stmt := top 109
abbrev s_law_share : Stmt := top 110
abbrev s_law_sent : Stmt := top 111
abbrev s_law_gap : Stmt := top 112
abbrev s_law_is : Stmt := top 113
abbrev s_law : Stmt := top 114
def d_is_integer : He.DefD := ⟨("is_integer", none), "is_integer", "is_integer", defArgs s_is_integer, defBody s_is_integer, defScope s_is_integer, [], []⟩
def d_is_within : He.DefD := ⟨("is_within", none), "is_within", "is_within", defArgs s_is_within, defBody s_is_within, defScope s_is_within, [], []⟩
def d_are_integers : He.DefD := ⟨("are_integers", none), "are_integers", "are_integers", defArgs s_are_integers, defBody s_are_integers, defScope s_are_integers, [], []⟩
def d_need_number : He.DefD := ⟨("need_number", none), "need_number", "need_number", defArgs s_need_number, defBody s_need_number, defScope s_need_number, [], []⟩
def d_is_heap : He.DefD := ⟨("is_heap", none), "is_heap", "is_heap", defArgs s_is_heap, defBody s_is_heap, defScope s_is_heap, [], []⟩
def d_are_heaps : He.DefD := ⟨("are_heaps", none), "are_heaps", "are_heaps", defArgs s_are_heaps, defBody s_are_heaps, defScope s_are_heaps, [], []⟩
def d_kept_heaps : He.DefD := ⟨("kept_heaps", none), "kept_heaps", "kept_heaps", defArgs s_kept_heaps, defBody s_kept_heaps, defScope s_kept_heaps, [], []⟩
def d_colour_in : He.DefD := ⟨("colour_in", none), "colour_in", "colour_in", defArgs s_colour_in, defBody s_colour_in, defScope s_colour_in, [], []⟩
def d_spots_of : He.DefD := ⟨("spots_of", none), "spots_of", "spots_of", defArgs s_spots_of, defBody s_spots_of, defScope s_spots_of, [], []⟩
def d_need_heaps : He.DefD := ⟨("need_heaps", none), "need_heaps", "need_heaps", defArgs s_need_heaps, defBody s_need_heaps, defScope s_need_heaps, [], []⟩
def d_need_colour : He.DefD := ⟨("need_colour", none), "need_colour", "need_colour", defArgs s_need_colour, defBody s_need_colour, defScope s_need_colour, [], []⟩
def d_need_lefts : He.DefD := ⟨("need_lefts", none), "need_lefts", "need_lefts", defArgs s_need_lefts, defBody s_need_lefts, defScope s_need_lefts, [.str "lefts"], []⟩
def d_need_start : He.DefD := ⟨("need_start", none), "need_start", "need_start", defArgs s_need_start, defBody s_need_start, defScope s_need_start, [], []⟩
def d_Line_init : He.DefD := ⟨("Line", some "__init__"), "__init__", "Line.__init__", defArgs s_Line_init, defBody s_Line_init, defScope s_Line_init, [], []⟩
def d_Line_heap_at : He.DefD := ⟨("Line", some "heap_at"), "heap_at", "Line.heap_at", defArgs s_Line_heap_at, defBody s_Line_heap_at, defScope s_Line_heap_at, [], []⟩
def d_Line_advance : He.DefD := ⟨("Line", some "advance"), "advance", "Line.advance", defArgs s_Line_advance, defBody s_Line_advance, defScope s_Line_advance, [], []⟩
def d_Line_forward : He.DefD := ⟨("Line", some "forward"), "forward", "Line.forward", defArgs s_Line_forward, defBody s_Line_forward, defScope s_Line_forward, [], []⟩
def d_line_at : He.DefD := ⟨("line_at", none), "line_at", "line_at", defArgs s_line_at, defBody s_line_at, defScope s_line_at, [], []⟩
def d_sent_on : He.DefD := ⟨("sent_on", none), "sent_on", "sent_on", defArgs s_sent_on, defBody s_sent_on, defScope s_sent_on, [], []⟩
def d_is_weight : He.DefD := ⟨("is_weight", none), "is_weight", "is_weight", defArgs s_is_weight, defBody s_is_weight, defScope s_is_weight, [], []⟩
def d_is_row : He.DefD := ⟨("is_row", none), "is_row", "is_row", defArgs s_is_row, defBody s_is_row, defScope s_is_row, [], []⟩
def d_are_rows : He.DefD := ⟨("are_rows", none), "are_rows", "are_rows", defArgs s_are_rows, defBody s_are_rows, defScope s_are_rows, [], []⟩
def d_place_of : He.DefD := ⟨("place_of", none), "place_of", "place_of", defArgs s_place_of, defBody s_place_of, defScope s_place_of, [], []⟩
def d_colour_at : He.DefD := ⟨("colour_at", none), "colour_at", "colour_at", defArgs s_colour_at, defBody s_colour_at, defScope s_colour_at, [], []⟩
def d_Look_init : He.DefD := ⟨("Look", some "__init__"), "__init__", "Look.__init__", defArgs s_Look_init, defBody s_Look_init, defScope s_Look_init, [], []⟩
def d_need_look : He.DefD := ⟨("need_look", none), "need_look", "need_look", defArgs s_need_look, defBody s_need_look, defScope s_need_look, [.str "look"], []⟩
def d_weighed : He.DefD := ⟨("weighed", none), "weighed", "weighed", defArgs s_weighed, defBody s_weighed, defScope s_weighed, [], []⟩
def d_joined_looks : He.DefD := ⟨("joined_looks", none), "joined_looks", "joined_looks", defArgs s_joined_looks, defBody s_joined_looks, defScope s_joined_looks, [], []⟩
def d_scaled_look : He.DefD := ⟨("scaled_look", none), "scaled_look", "scaled_look", defArgs s_scaled_look, defBody s_scaled_look, defScope s_scaled_look, [], []⟩
def d_moved_look : He.DefD := ⟨("moved_look", none), "moved_look", "moved_look", defArgs s_moved_look, defBody s_moved_look, defScope s_moved_look, [], []⟩
def d_least_pair : He.DefD := ⟨("least_pair", none), "least_pair", "least_pair", defArgs s_least_pair, defBody s_least_pair, defScope s_least_pair, [], []⟩
def d_both : He.DefD := ⟨("both", none), "both", "both", defArgs s_both, defBody s_both, defScope s_both, [], []⟩
def d_times : He.DefD := ⟨("times", none), "times", "times", defArgs s_times, defBody s_times, defScope s_times, [], []⟩
def d_turned : He.DefD := ⟨("turned", none), "turned", "turned", defArgs s_turned, defBody s_turned, defScope s_turned, [], []⟩
def d_is_less : He.DefD := ⟨("is_less", none), "is_less", "is_less", defArgs s_is_less, defBody s_is_less, defScope s_is_less, [], []⟩
def d_total_of : He.DefD := ⟨("total_of", none), "total_of", "total_of", defArgs s_total_of, defBody s_total_of, defScope s_total_of, [], []⟩
def d_fixed : He.DefD := ⟨("fixed", none), "fixed", "fixed", defArgs s_fixed, defBody s_fixed, defScope s_fixed, [], []⟩
def d_Paper_init : He.DefD := ⟨("Paper", some "__init__"), "__init__", "Paper.__init__", defArgs s_Paper_init, defBody s_Paper_init, defScope s_Paper_init, [], []⟩
def d_first_counts : He.DefD := ⟨("first_counts", none), "first_counts", "first_counts", defArgs s_first_counts, defBody s_first_counts, defScope s_first_counts, [], []⟩
def d_row_changes : He.DefD := ⟨("row_changes", none), "row_changes", "row_changes", defArgs s_row_changes, defBody s_row_changes, defScope s_row_changes, [], []⟩
def d_all_changes : He.DefD := ⟨("all_changes", none), "all_changes", "all_changes", defArgs s_all_changes, defBody s_all_changes, defScope s_all_changes, [], []⟩
def d_change_in : He.DefD := ⟨("change_in", none), "change_in", "change_in", defArgs s_change_in, defBody s_change_in, defScope s_change_in, [], []⟩
def d_more_of : He.DefD := ⟨("more_of", none), "more_of", "more_of", defArgs s_more_of, defBody s_more_of, defScope s_more_of, [], []⟩
def d_with_pick : He.DefD := ⟨("with_pick", none), "with_pick", "with_pick", defArgs s_with_pick, defBody s_with_pick, defScope s_with_pick, [], []⟩
def d_best_turns : He.DefD := ⟨("best_turns", none), "best_turns", "best_turns", defArgs s_best_turns, defBody s_best_turns, defScope s_best_turns, [], []⟩
def d_spots_changes : He.DefD := ⟨("spots_changes", none), "spots_changes", "spots_changes", defArgs s_spots_changes, defBody s_spots_changes, defScope s_spots_changes, [], []⟩
def d_reach_in : He.DefD := ⟨("reach_in", none), "reach_in", "reach_in", defArgs s_reach_in, defBody s_reach_in, defScope s_reach_in, [], []⟩
def d_reach_of : He.DefD := ⟨("reach_of", none), "reach_of", "reach_of", defArgs s_reach_of, defBody s_reach_of, defScope s_reach_of, [], []⟩
def d_added_wish : He.DefD := ⟨("added_wish", none), "added_wish", "added_wish", defArgs s_added_wish, defBody s_added_wish, defScope s_added_wish, [], []⟩
def d_free_wish : He.DefD := ⟨("free_wish", none), "free_wish", "free_wish", defArgs s_free_wish, defBody s_free_wish, defScope s_free_wish, [], []⟩
def d_ends_of : He.DefD := ⟨("ends_of", none), "ends_of", "ends_of", defArgs s_ends_of, defBody s_ends_of, defScope s_ends_of, [], []⟩
def d_later_row : He.DefD := ⟨("later_row", none), "later_row", "later_row", defArgs s_later_row, defBody s_later_row, defScope s_later_row, [], []⟩
def d_heaps_for : He.DefD := ⟨("heaps_for", none), "heaps_for", "heaps_for", defArgs s_heaps_for, defBody s_heaps_for, defScope s_heaps_for, [], []⟩
def d_need_near : He.DefD := ⟨("need_near", none), "need_near", "need_near", defArgs s_need_near, defBody s_need_near, defScope s_need_near, [], []⟩
def d_worst_start : He.DefD := ⟨("worst_start", none), "worst_start", "worst_start", defArgs s_worst_start, defBody s_worst_start, defScope s_worst_start, [], []⟩
def d_choices : He.DefD := ⟨("choices", none), "choices", "choices", defArgs s_choices, defBody s_choices, defScope s_choices, [], []⟩
def d_rows_to : He.DefD := ⟨("rows_to", none), "rows_to", "rows_to", defArgs s_rows_to, defBody s_rows_to, defScope s_rows_to, [], []⟩
def d_mean_in : He.DefD := ⟨("mean_in", none), "mean_in", "mean_in", defArgs s_mean_in, defBody s_mean_in, defScope s_mean_in, [], []⟩
def d_worth_in : He.DefD := ⟨("worth_in", none), "worth_in", "worth_in", defArgs s_worth_in, defBody s_worth_in, defScope s_worth_in, [], []⟩
def d_mean_of_look : He.DefD := ⟨("mean_of_look", none), "mean_of_look", "mean_of_look", defArgs s_mean_of_look, defBody s_mean_of_look, defScope s_mean_of_look, [], []⟩
def d_is_start : He.DefD := ⟨("is_start", none), "is_start", "is_start", defArgs s_is_start, defBody s_is_start, defScope s_is_start, [], []⟩
def d_shows_worst : He.DefD := ⟨("shows_worst", none), "shows_worst", "shows_worst", defArgs s_shows_worst, defBody s_shows_worst, defScope s_shows_worst, [], []⟩
def d_law_breeze : He.DefD := ⟨("_law_breeze", none), "_law_breeze", "_law_breeze", defArgs s_law_breeze, defBody s_law_breeze, defScope s_law_breeze, [], []⟩
def d_law_puff : He.DefD := ⟨("_law_puff", none), "_law_puff", "_law_puff", defArgs s_law_puff, defBody s_law_puff, defScope s_law_puff, [], []⟩
def d_law_one : He.DefD := ⟨("_law_one", none), "_law_one", "_law_one", defArgs s_law_one, defBody s_law_one, defScope s_law_one, [], []⟩
def d_law_rows : He.DefD := ⟨("_law_rows", none), "_law_rows", "_law_rows", defArgs s_law_rows, defBody s_law_rows, defScope s_law_rows, [], []⟩
def d_law_paths : He.DefD := ⟨("_law_paths", none), "_law_paths", "_law_paths", defArgs s_law_paths, defBody s_law_paths, defScope s_law_paths, [], []⟩
def d_law_share : He.DefD := ⟨("_law_share", none), "_law_share", "_law_share", defArgs s_law_share, defBody s_law_share, defScope s_law_share, [], []⟩
def d_law_sent : He.DefD := ⟨("_law_sent", none), "_law_sent", "_law_sent", defArgs s_law_sent, defBody s_law_sent, defScope s_law_sent, [], []⟩
def d_law_gap : He.DefD := ⟨("_law_gap", none), "_law_gap", "_law_gap", defArgs s_law_gap, defBody s_law_gap, defScope s_law_gap, [], []⟩
def d_law_is : He.DefD := ⟨("_law_is", none), "_law_is", "_law_is", defArgs s_law_is, defBody s_law_is, defScope s_law_is, [], []⟩
def d_law : He.DefD := ⟨("law", none), "law", "law", defArgs s_law, defBody s_law, defScope s_law, [], []⟩
def fn : List He.DefD := [d_is_integer, d_is_within, d_are_integers, d_need_number, d_is_heap, d_are_heaps, d_kept_heaps, d_colour_in, d_spots_of, d_need_heaps, d_need_colour, d_need_lefts, d_need_start, d_Line_init, d_Line_heap_at, d_Line_advance, d_Line_forward, d_line_at, d_sent_on, d_is_weight, d_is_row, d_are_rows, d_place_of, d_colour_at, d_Look_init, d_need_look, d_weighed, d_joined_looks, d_scaled_look, d_moved_look, d_least_pair, d_both, d_times, d_turned, d_is_less, d_total_of, d_fixed, d_Paper_init, d_first_counts, d_row_changes, d_all_changes, d_change_in, d_more_of, d_with_pick, d_best_turns, d_spots_changes, d_reach_in, d_reach_of, d_added_wish, d_free_wish, d_ends_of, d_later_row, d_heaps_for, d_need_near, d_worst_start, d_choices, d_rows_to, d_mean_in, d_worth_in, d_mean_of_look, d_is_start, d_shows_worst, d_law_breeze, d_law_puff, d_law_one, d_law_rows, d_law_paths, d_law_share, d_law_sent, d_law_gap, d_law_is, d_law]
def fa : List He.Fa := [.glo "is_integer",
  .glo "is_within",
  .glo "are_integers",
  .glo "need_number",
  .glo "is_heap",
  .glo "are_heaps",
  .glo "kept_heaps",
  .glo "colour_in",
  .glo "spots_of",
  .glo "need_heaps",
  .glo "need_colour",
  .glo "need_lefts",
  .glo "need_start",
  .glo "Line",
  .glo "line_at",
  .glo "sent_on",
  .glo "is_weight",
  .glo "is_row",
  .glo "are_rows",
  .glo "place_of",
  .glo "colour_at",
  .glo "Look",
  .glo "need_look",
  .glo "weighed",
  .glo "joined_looks",
  .glo "scaled_look",
  .glo "moved_look",
  .glo "least_pair",
  .glo "both",
  .glo "times",
  .glo "turned",
  .glo "is_less",
  .glo "total_of",
  .glo "fixed",
  .glo "Paper",
  .glo "first_counts",
  .glo "row_changes",
  .glo "all_changes",
  .glo "change_in",
  .glo "more_of",
  .glo "with_pick",
  .glo "best_turns",
  .glo "spots_changes",
  .glo "reach_in",
  .glo "reach_of",
  .glo "Worst",
  .glo "added_wish",
  .glo "free_wish",
  .glo "ends_of",
  .glo "later_row",
  .glo "heaps_for",
  .glo "need_near",
  .glo "worst_start",
  .glo "choices",
  .glo "rows_to",
  .glo "mean_in",
  .glo "worth_in",
  .glo "mean_of_look",
  .glo "is_start",
  .glo "shows_worst",
  .glo "_law_breeze",
  .glo "_law_puff",
  .glo "_law_one",
  .glo "_law_rows",
  .glo "_law_paths",
  .glo "_law_share",
  .glo "_law_sent",
  .glo "_law_gap",
  .glo "_law_is",
  .glo "law",
  .glo "BadNumber",
  .glo "NOUGHT",
  .free "isinstance",
  .free "int",
  .free "bool",
  .free "list",
  .free "tuple",
  .free "len",
  .free "all",
  .free "any",
  .free "set",
  .free "sorted",
  .free "dict",
  .free "range",
  .free "enumerate",
  .free "zip",
  .free "min",
  .free "max",
  .free "sum",
  .free "abs",
  .free "repr",
  .free "super",
  .int "MOST_HEAPS" 60,
  .int "MOST_LEFTS" 400,
  .int "FARTHEST" 1000000,
  .int "MOST_CHIPS" 1000000000000000000000000000000000000000000000000000000000000,
  .int "MOST_FIGURES" 140,
  .int "MOST_TICKS" 200,
  .int "MOST_ROWS" 40,
  .int "MOST_TICK" 60,
  .int "MOST_WEIGHT" 1000000,
  .int "FARTHEST_FIRST" 999900,
  .int "MOST_WIDE" 118,
  .cls "Line",
  .cls "Look",
  .cls "Worst",
  .cls "Paper",
  .noat "Line" "tick",
  .noat "Line" "heaps",
  .noat "Line" "lefts",
  .noat "Look" "rows",
  .noat "Look" "last",
  .noat "Look" "colour",
  .noat "Worst" "word",
  .noat "Worst" "parts",
  .noat "Worst" "heaps",
  .noat "Worst" "lefts",
  .meth "Line" "advance",
  .meth "Line" "forward",
  .meth "Line" "heap_at",
  .mkr "Line",
  .mkr "Look",
  .mkr "Worst"]
def names0 : List PySem.Str := ["gcd", "_wall", "__name__", "HandError", "BadNumber", "BadHeaps", "BadLook", "Misfit", "TooMany", "BadText", "is_integer", "is_within", "are_integers", "need_number", "MOST_HEAPS", "MOST_LEFTS", "FARTHEST", "MOST_CHIPS", "is_heap", "are_heaps"]
def names1 : List PySem.Str := ["kept_heaps", "colour_in", "spots_of", "need_heaps", "need_colour", "need_lefts", "need_start", "BAR", "FIGURES", "MOST_FIGURES", "written", "Scan", "MOST_TICKS", "Line", "taken_heap", "line_at", "state_of", "sent_on", "MOST_ROWS", "MOST_TICK"]
def names2 : List PySem.Str := ["MOST_WEIGHT", "FARTHEST_FIRST", "is_weight", "is_row", "are_rows", "place_of", "colour_at", "Look", "taken_row", "written_weight", "need_look", "weighed", "joined_looks", "scaled_look", "moved_look", "NOUGHT", "least_pair", "both", "times", "turned"]
def names3 : List PySem.Str := ["is_less", "total_of", "fixed", "Paper", "first_counts", "row_changes", "all_changes", "change_in", "more_of", "with_pick", "best_turns", "spots_changes", "reach_in", "reach_of", "MOST_WIDE", "Worst", "added_wish", "free_wish", "ends_of", "later_row"]
def names4 : List PySem.Str := ["heaps_for", "need_near", "worst_start", "choices", "rows_to", "mean_in", "worth_in", "mean_of_look", "is_start", "shows_worst", "_law_breeze", "_law_puff", "_law_one", "_law_rows", "_law_paths", "_law_share", "_law_sent", "_law_gap", "_law_is"]
def names : List PySem.Str := names0 ++ names1 ++ names2 ++ names3 ++ names4
end Nw
namespace Nw
open PySem PySem.Spec PyProof.Rows L2
/-- what an own class must say, for isinstance -/
def insB (K : PySem.W.Frag) (x : Str) : Bool := He.eqO (PySem.W.findIn K (.ref (He.ga K x)) "__class__") (some (some (.builtin "object.__class__"))) && (decide (PySem.W.specialIn K (.builtin "object.__class__") "__get__" = some (some (.builtin "getset_descriptor.__get__"))) &&
  (decide (PySem.W.takesIn K (.builtin "object.__class__") = some true) && (decide (PySem.W.mroIn K (He.ga K x) (.type "object") = some true) && decide (PySem.W.kitOne K (.ref (He.ga K x)) (.ref (He.ga K x)) = some true))))
/-- more than He's facts -/
def exB (K : PySem.W.Frag) : Bool := He.eqO (PySem.W.nsIn K mainGlobals "gcd") (some (some (.builtin "math.gcd"))) && (He.tupB K "NOUGHT" [.int 0, .int 1] && (insB K "Look" && insB K "Worst"))
/-! what the head must tell of Worst.__init__, which has __class__ as a free name -/
def wsF (K : PySem.W.Frag) : Addr := He.ma K (He.ga K "Worst") "__init__"
abbrev WsV : Type := Option (Str × Str × Arguments × FuncBody × Scope × Addr × List Str × Value × Addr)
def wsObs (K : PySem.W.Frag) : WsV := match K.lookup (wsF K) with
  | some ⟨_, _, .func fd, _⟩ => some (fd.name, fd.qualname, fd.params, fd.body, fd.scope, fd.globals, fd.closure.map (·.1), fd.defaults, fd.builtins)
  | _ => none
def wsVal : WsV := some ("__init__", "Worst.__init__", defArgs s_Worst_init, .stmts (defBody s_Worst_init), defScope s_Worst_init, mainGlobals, ["__class__"], .none, builtinsNs)
/-- its cell holds Worst; its code object names its file -/
def wsB (K : PySem.W.Frag) : Bool := match K.lookup (wsF K) with
  | some ⟨_, _, .func fd, _⟩ => PySem.W.codeIn K fd.code "Worst.__init__" &&
    ((match fd.closure with
      | [(_, cc)] => (match K.lookup cc with
        | some ⟨_, _, .cell (some (.ref D)), _⟩ => decide (D = He.ga K "Worst")
        | _ => false)
      | _ => false) &&
    (match fd.code with
      | .ref c => (match K.lookup c with
        | some ⟨_, _, .fields vs, _⟩ => (match (vs[2]? : Option Value) with
          | some (.str n _) => ((PySem.Challenge.pw_nodice_k56_whole_worst_starts_turned_and.main.file : Str) == n)
          | _ => false)
        | _ => false)
      | _ => false))
  | _ => false
def wsC (K : PySem.W.Frag) : Bool := (PySem.W.clsIn K (He.ga K "Worst")).isSome && (decide (PySem.W.mroIn K (He.ga K "Worst") (.ref (He.ga K "Worst")) = some true) &&
  (decide (PySem.W.ks_superIn K (He.ga K "Worst") (He.ga K "Worst") "__init__" = some (some (.ref (He.ma K (He.ga K "Paper") "__init__")))) &&
  (decide (PySem.W.typeIn K (.ref (He.ma K (He.ga K "Paper") "__init__")) = some (.type "function")) && (He.eqO (PySem.W.nsIn K cStatics "thirdparty.any") (some none) && (PySem.W.fnIn K (He.ma K (He.ga K "Paper") "__init__") && PySem.W.keepIn K (.ref (wsF K)))))))
end Nw
namespace Nw
open PySem PySem.Spec PyProof.Rows L2
abbrev LawRow : PySem.W.OpenRow := PySem.W.OpenLaw.row PySem.Challenge.rw_nodice_k56_whole_worst_starts_turned_and
/-- the objects that one object names, of those that matter here -/
def refs1 (o : Obj) : List Addr := match o.data with
  | .dict es _ => es.toList.flatMap fun e => He.refV e.val
  | .func fd => He.refV fd.code ++ He.refV fd.defaults ++ fd.closure.map (·.2)
  | .cls cd => [cd.ns]
  | .cell (some v) => He.refV v
  | _ => []
def refsL (g : Addr → Option Obj) (as : List Addr) : List Addr := as.flatMap fun a => match g a with
  | some o => refs1 o
  | none => []
/-- main's dict, what it names, the defs' code and the classes' dicts, the methods, their code -/
def asN (g : Addr → Option Obj) : List Addr :=
  let l1 := refsL g [mainGlobals]
  let l2 := refsL g l1
  let l3 := refsL g l2
  let l4 := refsL g l3
  cStatics :: mainGlobals :: (l1 ++ (l2 ++ (l3 ++ l4)))
abbrev AlN : Type := He.AlD × Bool × WsV
def obsN (fa : List He.Fa) (fn : List He.DefD) (g : Addr → Option Obj) : AlN := (He.obsD fa fn (He.frG g (asN g)), exB (He.frG g (asN g)) && (wsB (He.frG g (asN g)) && wsC (He.frG g (asN g))), wsObs (He.frG g (asN g)))
def hookN (fa : List He.Fa) (fn : List He.DefD) : PySem.W.Hook where
  α := AlN
  obs := fun s => obsN fa fn s.heap.get?
  val := fun _ => (He.valD fn, true, wsVal)
  says := fun _ h => ∃ K : PySem.W.Frag, K.In h ∧ He.SaysD fa fn K ∧ (exB K && (wsB K && wsC K)) = true ∧ wsObs K = wsVal
  of := fun _ _ e => ⟨_, He.frG_in, congrArg (fun z : AlN => z.1) e, congrArg (fun z : AlN => z.2.1) e, congrArg (fun z : AlN => z.2.2) e⟩
  keeps := fun _ _ _ ⟨K, hK, c⟩ k => ⟨K, PySem.W.Frag.In.keeps hK k, c⟩
def obT (fa : List He.Fa) (fn : List He.DefD) (s : PySem.W.SharedT) : AlN := obsN fa fn (HandSHeadRun.getT s)
def namesI : List PySem.Str := names.filter fun x => x != "gcd"
theorem run (w : World) : HandSHeadRun.RunEqI LawRow (PySem.W.view LawRow.prog [0, 114]) (hookN fa fn) (obT fa fn) 12000 namesI w := by
  show _ = _
  kernel_rfl
end Nw
namespace Nd
/-! sums over a window of spots -/
def isum (lo : Int) : Nat → (Int → Int) → Int
  | 0, _ => 0
  | n + 1, f => isum lo n f + f (lo + (n : Int))
theorem isum_congr {lo : Int} {n : Nat} {f g : Int → Int} (h : ∀ y, lo ≤ y → y < lo + n → f y = g y) : isum lo n f = isum lo n g := by
  induction n with
  | zero => rfl
  | succ n ih =>
    simp only [isum]
    rw [ih (fun y h1 h2 => h y h1 (by omega)), h (lo + n) (by omega) (by omega)]
theorem isum_add {lo : Int} {n : Nat} {f g : Int → Int} : isum lo n (fun y => f y + g y) = isum lo n f + isum lo n g := by
  induction n with
  | zero => rfl
  | succ n ih => simp only [isum]; omega
theorem isum_sub {lo : Int} {n : Nat} {f g : Int → Int} : isum lo n (fun y => f y - g y) = isum lo n f - isum lo n g := by
  induction n with
  | zero => rfl
  | succ n ih => simp only [isum]; omega
theorem isum_mul {lo : Int} {n : Nat} {c : Int} {f : Int → Int} : isum lo n (fun y => c * f y) = c * isum lo n f := by
  induction n with
  | zero => simp [isum]
  | succ n ih => simp only [isum, ih, Int.mul_add]
theorem isum_neg {lo : Int} {n : Nat} {f : Int → Int} : isum lo n (fun y => - f y) = - isum lo n f := by
  induction n with
  | zero => rfl
  | succ n ih => simp only [isum]; omega
theorem isum_zero {lo : Int} {n : Nat} {f : Int → Int} (h : ∀ y, lo ≤ y → y < lo + n → f y = 0) : isum lo n f = 0 := by
  induction n with
  | zero => rfl
  | succ n ih =>
    simp only [isum]
    rw [ih (fun y h1 h2 => h y h1 (by omega)), h (lo + n) (by omega) (by omega)]; rfl
theorem isum_le {lo : Int} {n : Nat} {f g : Int → Int} (h : ∀ y, lo ≤ y → y < lo + n → f y ≤ g y) : isum lo n f ≤ isum lo n g := by
  induction n with
  | zero => exact Int.le_refl _
  | succ n ih =>
    simp only [isum]
    have h1 := ih (fun y h1 h2 => h y h1 (by omega))
    have h2 := h (lo + n) (by omega) (by omega)
    omega
theorem isum_split {lo : Int} {n m : Nat} {f : Int → Int} : isum lo (n + m) f = isum lo n f + isum (lo + n) m f := by
  induction m with
  | zero => simp [isum]
  | succ m ih =>
    show isum lo (n + m) f + f (lo + ((n + m : Nat) : Int)) = isum lo n f + (isum (lo + n) m f + f (lo + n + m))
    rw [ih, show lo + ((n + m : Nat) : Int) = lo + n + m by omega]
    omega
theorem isum_shift {lo k : Int} {n : Nat} {f : Int → Int} : isum lo n (fun y => f (y + k)) = isum (lo + k) n f := by
  induction n with
  | zero => rfl
  | succ n ih =>
    simp only [isum]
    rw [ih, show lo + (n : Int) + k = lo + k + n by omega]
/-- a window that holds all that is not 0 -/
theorem isum_in {lo a : Int} {n m : Nat} {f : Int → Int} (h1 : lo ≤ a) (h2 : a + m ≤ lo + n) (hz : ∀ y, (y < a ∨ a + m ≤ y) → f y = 0) : isum lo n f = isum a m f := by
  obtain ⟨i, hi⟩ : ∃ i : Nat, a = lo + i := ⟨(a - lo).toNat, by omega⟩
  obtain ⟨j, hj⟩ : ∃ j : Nat, n = i + m + j := ⟨n - i - m, by omega⟩
  subst hj
  rw [isum_split, isum_split, ← hi]
  rw [isum_zero (lo := lo) (n := i) (fun y y1 y2 => hz y (.inl (by omega)))]
  rw [isum_zero (lo := lo + ((i + m : Nat) : Int)) (n := j) (fun y y1 y2 => hz y (.inr (by omega)))]
  omega
/-- moved: f vanishes at the edges of both windows -/
theorem isum_moved {lo k : Int} {n : Nat} {f : Int → Int} {a : Int} {m : Nat} (h1 : lo ≤ a) (h2 : a + m ≤ lo + n) (h3 : lo + k ≤ a) (h4 : a + m ≤ lo + k + n) (hz : ∀ y, (y < a ∨ a + m ≤ y) → f y = 0) :
    isum lo n (fun y => f (y + k)) = isum lo n f := by
  rw [isum_shift, isum_in h3 h4 hz, isum_in h1 h2 hz]
/-- one spot alone -/
theorem isum_one {lo : Int} {n : Nat} {z c : Int} (h1 : lo ≤ z) (h2 : z < lo + n) (f : Int → Int) : isum lo n (fun y => if y = z then c * f y else 0) = c * f z := by
  have e : isum lo n (fun y => if y = z then c * f y else 0) = isum z 1 (fun y => if y = z then c * f y else 0) :=
    isum_in h1 (by omega) (fun y hy => if_neg (by omega))
  rw [e]
  simp [isum]
/-! sums over ticks -/
def tsum : Nat → (Nat → Int) → Int
  | 0, _ => 0
  | n + 1, f => tsum n f + f n
theorem tsum_congr {n : Nat} {f g : Nat → Int} (h : ∀ t, t < n → f t = g t) : tsum n f = tsum n g := by
  induction n with
  | zero => rfl
  | succ n ih => simp only [tsum]; rw [ih (fun t ht => h t (by omega)), h n (by omega)]
theorem tsum_zero {n : Nat} {f : Nat → Int} (h : ∀ t, t < n → f t = 0) : tsum n f = 0 := by
  induction n with
  | zero => rfl
  | succ n ih => simp only [tsum]; rw [ih (fun t ht => h t (by omega)), h n (by omega)]; rfl
theorem tsum_add {n : Nat} {f g : Nat → Int} : tsum n (fun t => f t + g t) = tsum n f + tsum n g := by
  induction n with
  | zero => rfl
  | succ n ih => simp only [tsum]; omega
theorem tsum_mul {n : Nat} {c : Int} {f : Nat → Int} : tsum n (fun t => c * f t) = c * tsum n f := by
  induction n with
  | zero => simp [tsum]
  | succ n ih => simp only [tsum, ih, Int.mul_add]
theorem tsum_more {n m : Nat} {f : Nat → Int} (h : n ≤ m) (hz : ∀ t, n ≤ t → t < m → f t = 0) : tsum m f = tsum n f := by
  induction m with
  | zero => rw [show n = 0 by omega]
  | succ m ih =>
    by_cases e : n = m + 1
    · rw [e]
    · simp only [tsum]
      rw [ih (by omega) (fun t h1 h2 => hz t h1 (by omega)), hz m (by omega) (by omega)]; omega
theorem isum_tsum {lo : Int} {n m : Nat} {f : Int → Nat → Int} : isum lo n (fun y => tsum m (fun t => f y t)) = tsum m (fun t => isum lo n (fun y => f y t)) := by
  induction m with
  | zero => exact isum_zero (fun _ _ _ => rfl)
  | succ m ih => simp only [tsum]; rw [isum_add, ih]
/-! sums over rows -/
def lsum {α : Type} (f : α → Int) : List α → Int
  | [] => 0
  | a :: r => f a + lsum f r
theorem lsum_congr {α : Type} {f g : α → Int} : ∀ {l : List α}, (∀ a ∈ l, f a = g a) → lsum f l = lsum g l
  | [], _ => rfl
  | a :: r, h => by
    simp only [lsum]
    rw [h a (by simp), lsum_congr (l := r) (fun b hb => h b (by simp [hb]))]
theorem lsum_mul {α : Type} {c : Int} {f : α → Int} : ∀ {l : List α}, lsum (fun a => c * f a) l = c * lsum f l
  | [] => by simp [lsum]
  | a :: r => by simp only [lsum, lsum_mul (l := r), Int.mul_add]
theorem lsum_append {α : Type} {f : α → Int} : ∀ {l m : List α}, lsum f (l ++ m) = lsum f l + lsum f m
  | [], m => by simp [lsum]
  | a :: r, m => by simp only [List.cons_append, lsum, lsum_append (l := r)]; omega
theorem lsum_map {α β : Type} {f : β → Int} {g : α → β} : ∀ {l : List α}, lsum f (l.map g) = lsum (fun a => f (g a)) l
  | [] => rfl
  | a :: r => by simp only [List.map_cons, lsum, lsum_map (l := r)]
theorem lsum_perm {α : Type} {f : α → Int} {l m : List α} (h : l.Perm m) : lsum f l = lsum f m := by
  induction h with
  | nil => rfl
  | cons a _ ih => simp only [lsum, ih]
  | swap a b l => simp only [lsum]; omega
  | trans _ _ h1 h2 => rw [h1, h2]
theorem lsum_zero {α : Type} {f : α → Int} : ∀ {l : List α}, (∀ a ∈ l, f a = 0) → lsum f l = 0
  | [], _ => rfl
  | a :: r, h => by
    simp only [lsum]
    rw [h a (by simp), lsum_zero (l := r) (fun b hb => h b (by simp [hb]))]; rfl
theorem lsum_add {α : Type} {f g : α → Int} : ∀ {l : List α}, lsum (fun a => f a + g a) l = lsum f l + lsum g l
  | [] => rfl
  | a :: r => by simp only [lsum, lsum_add (l := r)]; omega
theorem isum_lsum {α : Type} {lo : Int} {n : Nat} {f : Int → α → Int} : ∀ {l : List α}, isum lo n (fun y => lsum (fun a => f y a) l) = lsum (fun a => isum lo n (fun y => f y a)) l
  | [] => isum_zero (fun _ _ _ => rfl)
  | a :: r => by simp only [lsum]; rw [isum_add, isum_lsum (l := r)]
theorem tsum_lsum {α : Type} {n : Nat} {f : Nat → α → Int} : ∀ {l : List α}, tsum n (fun t => lsum (fun a => f t a) l) = lsum (fun a => tsum n (fun t => f t a)) l
  | [] => tsum_zero (fun _ _ => rfl)
  | a :: r => by simp only [lsum]; rw [tsum_add, tsum_lsum (l := r)]

/-! chance -/
def P : Nat → Int → Int
  | 0, d => if d = 0 then 1 else 0
  | k + 1, d => P k (d - 1) + P k (d + 1)
def R : Nat → Int → Int
  | 0, _ => 0
  | k + 1, d => P k (d - 1) - P k (d + 1)
theorem P_far : ∀ {k : Nat} {d : Int}, ((k : Int) < d ∨ d < -(k : Int)) → P k d = 0
  | 0, d, h => by simp only [P]; exact if_neg (by omega)
  | k + 1, d, h => by simp only [P]; rw [P_far (k := k) (d := d - 1) (by omega), P_far (k := k) (d := d + 1) (by omega)]; rfl
theorem R_far : ∀ {k : Nat} {d : Int}, ((k : Int) < d ∨ d < -(k : Int)) → R k d = 0
  | 0, d, h => rfl
  | k + 1, d, h => by simp only [R]; rw [P_far (k := k) (d := d - 1) (by omega), P_far (k := k) (d := d + 1) (by omega)]; rfl
theorem P_odd : ∀ {k : Nat} {d : Int}, (k + d) % 2 ≠ 0 → P k d = 0
  | 0, d, h => by simp only [P]; exact if_neg (by omega)
  | k + 1, d, h => by simp only [P]; rw [P_odd (k := k) (d := d - 1) (by omega), P_odd (k := k) (d := d + 1) (by omega)]; rfl
theorem P_sym : ∀ {k : Nat} {d : Int}, P k (-d) = P k d
  | 0, d => by
    simp only [P]
    by_cases h : d = 0
    · rw [if_pos h, if_pos (by omega)]
    · rw [if_neg h, if_neg (by omega)]
  | k + 1, d => by
    simp only [P]
    rw [show -d - 1 = -(d + 1) by omega, show -d + 1 = -(d - 1) by omega, P_sym (k := k), P_sym (k := k)]; omega
theorem R_anti {k : Nat} {d : Int} : R k (-d) = - R k d := by
  cases k with
  | zero => rfl
  | succ k =>
    simp only [R]
    rw [show -d - 1 = -(d + 1) by omega, show -d + 1 = -(d - 1) by omega, P_sym, P_sym]; omega
theorem R_succ {k : Nat} {d : Int} (hk : 1 ≤ k) : R (k + 1) d = R k (d - 1) + R k (d + 1) := by
  obtain ⟨j, rfl⟩ : ∃ j, k = j + 1 := ⟨k - 1, by omega⟩
  simp only [R, P]
  rw [show d - 1 + 1 = d by omega, show d + 1 - 1 = d by omega]
  omega
theorem R_zero {k : Nat} : R k 0 = 0 := by
  have h := R_anti (k := k) (d := 0)
  rw [show (-(0 : Int)) = 0 by omega] at h
  omega
theorem P_nonneg : ∀ {k : Nat} {d : Int}, 0 ≤ P k d
  | 0, d => by
    simp only [P]
    split <;> omega
  | k + 1, d => by
    simp only [P]
    have := P_nonneg (k := k) (d := d - 1)
    have := P_nonneg (k := k) (d := d + 1)
    omega
end Nd
namespace Nd
/-! the line -/
abbrev HF := Int → Int
abbrev LF := Int → Bool
def b2 (b : Bool) : Int := if b = true then 1 else 0
def leftOf (h : HF) (l : LF) (y : Int) : Int := (h y + b2 (l y)) / 2
def stepH (h : HF) (l : LF) : HF := fun x => (h (x - 1) - leftOf h l (x - 1)) + leftOf h l (x + 1)
def stepL (h : HF) (l : LF) : LF := fun y => if h y % 2 = 1 then !(l y) else l y
def ev (h : HF) (l : LF) : Nat → HF × LF
  | 0 => (h, l)
  | t + 1 => (stepH (ev h l t).1 (ev h l t).2, stepL (ev h l t).1 (ev h l t).2)
abbrev evH (h : HF) (l : LF) (t : Nat) : HF := (ev h l t).1
abbrev evL (h : HF) (l : LF) (t : Nat) : LF := (ev h l t).2
theorem evH_succ {h : HF} {l : LF} {t : Nat} : evH h l (t + 1) = stepH (evH h l t) (evL h l t) := rfl
theorem evL_succ {h : HF} {l : LF} {t : Nat} : evL h l (t + 1) = stepL (evH h l t) (evL h l t) := rfl
/-- the way of an odd heap, 0 of an even one -/
def way (h : HF) (l : LF) (y : Int) : Int := if h y % 2 = 1 then (if l y = true then -1 else 1) else 0
theorem two_left (h : HF) (l : LF) (y : Int) : 2 * leftOf h l y = h y - way h l y := by
  unfold leftOf way b2
  by_cases o : h y % 2 = 1
  · rw [if_pos o]
    cases l y
    · rw [if_neg (by simp), if_neg (by simp)]; omega
    · rw [if_pos rfl, if_pos rfl]; omega
  · rw [if_neg o]
    cases l y
    · rw [if_neg (by simp)]; omega
    · rw [if_pos rfl]; omega
theorem two_step (h : HF) (l : LF) (x : Int) : 2 * stepH h l x = (h (x - 1) + way h l (x - 1)) + (h (x + 1) - way h l (x + 1)) := by
  unfold stepH
  have h1 := two_left h l (x - 1)
  have h2 := two_left h l (x + 1)
  omega
/-! from the mean to the worth, tick by tick -/
section
variable {lo : Int} {n : Nat}
/-- one tick, a place x that is k ticks ahead behind it -/
theorem one_tick {h : HF} {l : LF} {x : Int} {k : Nat} (h1 : lo + 1 + k < x) (h2 : x + k + 1 < lo + n - 1) :
    2 * isum lo n (fun y => stepH h l y * P k (x - y)) = isum lo n (fun y => h y * P (k + 1) (x - y)) + isum lo n (fun y => way h l y * R (k + 1) (x - y)) := by
  have e1 : 2 * isum lo n (fun y => stepH h l y * P k (x - y)) =
      isum lo n (fun y => (h (y - 1) + way h l (y - 1)) * P k (x - y)) + isum lo n (fun y => (h (y + 1) - way h l (y + 1)) * P k (x - y)) := by
    rw [← isum_mul, ← isum_add]
    refine isum_congr fun y _ _ => ?_
    rw [← Int.mul_assoc, two_step, Int.add_mul]
  have e2 : isum lo n (fun y => (h (y - 1) + way h l (y - 1)) * P k (x - y)) = isum lo n (fun z => (h z + way h l z) * P k (x - z - 1)) := by
    have := isum_moved (lo := lo) (k := -1) (n := n) (f := fun z => (h z + way h l z) * P k (x - z - 1)) (a := x - k - 1) (m := 2 * k + 1) (by omega) (by omega) (by omega) (by omega)
      (fun y hy => by rw [P_far (by omega), Int.mul_zero])
    rw [← this]
    refine isum_congr fun y _ _ => ?_
    rw [show y + -1 = y - 1 by omega, show x - (y - 1) - 1 = x - y by omega]
  have e3 : isum lo n (fun y => (h (y + 1) - way h l (y + 1)) * P k (x - y)) = isum lo n (fun z => (h z - way h l z) * P k (x - z + 1)) := by
    have := isum_moved (lo := lo) (k := 1) (n := n) (f := fun z => (h z - way h l z) * P k (x - z + 1)) (a := x - k + 1) (m := 2 * k + 1) (by omega) (by omega) (by omega) (by omega)
      (fun y hy => by rw [P_far (by omega), Int.mul_zero])
    rw [← this]
    refine isum_congr fun y _ _ => ?_
    rw [show x - (y + 1) + 1 = x - y by omega]
  rw [e1, e2, e3, ← isum_add, ← isum_add]
  refine isum_congr fun y _ _ => ?_
  simp only [P, R]
  generalize h y = a; generalize way h l y = b; generalize P k (x - y - 1) = p; generalize P k (x - y + 1) = q
  rw [Int.add_mul, Int.sub_mul, Int.mul_add, Int.mul_sub]
  omega
/-- the way from the mean to the heap at tick s -/
theorem to_worth {h : HF} {l : LF} {x : Int} {s : Nat} (h1 : lo + 1 + s < x) (h2 : x + s + 1 < lo + n - 1) : ∀ t, t ≤ s →
    2 ^ t * isum lo n (fun y => evH h l t y * P (s - t) (x - y)) = isum lo n (fun y => h y * P s (x - y)) + tsum t (fun u => 2 ^ u * isum lo n (fun y => way (evH h l u) (evL h l u) y * R (s - u) (x - y)))
  | 0, _ => by
    simp only [tsum]
    show 1 * _ = _
    rw [Int.one_mul]
    simp only [Int.add_zero]
    rfl
  | t + 1, ht => by
    have ih := to_worth (h := h) (l := l) h1 h2 t (by omega)
    simp only [tsum]
    rw [← Int.add_assoc, ← ih, show (2 : Int) ^ (t + 1) = 2 ^ t * 2 from by rw [Int.pow_succ], Int.mul_assoc]
    have o := one_tick (lo := lo) (n := n) (h := evH h l t) (l := evL h l t) (x := x) (k := s - (t + 1)) (by omega) (by omega)
    rw [evH_succ, o, show s - (t + 1) + 1 = s - t by omega, Int.mul_add]
theorem at_place {h : HF} {x : Int} (h1 : lo ≤ x) (h2 : x < lo + n) : isum lo n (fun y => h y * P 0 (x - y)) = h x := by
  have e : isum lo n (fun y => h y * P 0 (x - y)) = isum lo n (fun y => if y = x then 1 * h y else 0) := by
    refine isum_congr fun y _ _ => ?_
    simp only [P]
    by_cases e : y = x
    · rw [if_pos e, if_pos (by omega)]; omega
    · rw [if_neg e, if_neg (by omega)]; omega
  rw [e, isum_one h1 h2]; omega
/-- 2 ** s times what lies at x behind s ticks -/
theorem worth_at {h : HF} {l : LF} {x : Int} {s : Nat} (h1 : lo + 1 + s < x) (h2 : x + s + 1 < lo + n - 1) :
    2 ^ s * evH h l s x = isum lo n (fun y => h y * P s (x - y)) + tsum s (fun u => 2 ^ u * isum lo n (fun y => way (evH h l u) (evL h l u) y * R (s - u) (x - y))) := by
  have := to_worth (lo := lo) (n := n) (h := h) (l := l) h1 h2 s (Nat.le_refl _)
  rw [← this, Nat.sub_self, at_place (by omega) (by omega)]
end
/-! looks -/
abbrev Row := Int × Nat × Int
/-- the window of all -/
@[irreducible] def WL : Int := -200
@[irreducible] def WN : Nat := 401
theorem wl_eq : WL = -200 := by unfold WL; rfl
theorem wn_eq : (WN : Int) = 401 := by unfold WN; rfl
def meanS (h : HF) (x : Int) (s : Nat) : Int := isum WL WN (fun y => h y * P s (x - y))
def gap2 (rows : List Row) (last : Nat) (h : HF) (l : LF) : Int := lsum (fun r => r.2.2 * (2 ^ last * evH h l r.2.1 r.1 - 2 ^ (last - r.2.1) * meanS h r.1 r.2.1)) rows
/-- 2 ** last times what an odd chip changes -/
def chg (rows : List Row) (last : Nat) (y : Int) (t : Nat) : Int := lsum (fun r => if t < r.2.1 then r.2.2 * R (r.2.1 - t) (r.1 - y) * 2 ^ (last - (r.2.1 - t)) else 0) rows
/-- rows near the middle -/
def Near (B : Nat) (rows : List Row) (last : Nat) : Prop := ∀ r ∈ rows, -(B : Int) ≤ r.1 ∧ r.1 ≤ B ∧ r.2.1 ≤ last
theorem pow_split {a b : Nat} : (2 : Int) ^ (a + b) = 2 ^ a * 2 ^ b := Int.pow_add 2 a b
theorem gap_told {rows : List Row} {last B : Nat} {h : HF} {l : LF} (nr : Near B rows last) (hB : B + last + 5 < 200) :
    gap2 rows last h l = isum WL WN (fun y => tsum last (fun t => way (evH h l t) (evL h l t) y * chg rows last y t)) := by
  have e : isum WL WN (fun y => tsum last (fun t => way (evH h l t) (evL h l t) y * chg rows last y t)) =
      lsum (fun r => isum WL WN (fun y => tsum last (fun t => way (evH h l t) (evL h l t) y * (if t < r.2.1 then r.2.2 * R (r.2.1 - t) (r.1 - y) * 2 ^ (last - (r.2.1 - t)) else 0)))) rows := by
    rw [← isum_lsum]
    refine isum_congr fun y _ _ => ?_
    rw [← tsum_lsum]
    refine tsum_congr fun t _ => ?_
    rw [lsum_mul]; rfl
  rw [e]
  unfold gap2
  refine lsum_congr fun r hr => ?_
  obtain ⟨x, s, w⟩ := r
  obtain ⟨n1, n2, n3⟩ := nr _ hr
  dsimp only at n1 n2 n3 ⊢
  have wa := worth_at (lo := WL) (n := WN) (h := h) (l := l) (x := x) (s := s) (by have := wl_eq; omega) (by have := wl_eq; have := wn_eq; omega)
  have el : (2 : Int) ^ last = 2 ^ (last - s) * 2 ^ s := by rw [← pow_split]; congr 1; omega
  rw [el, Int.mul_assoc, wa, Int.mul_add]
  show w * (2 ^ (last - s) * meanS h x s + _ - 2 ^ (last - s) * meanS h x s) = _
  rw [Int.add_comm, Int.add_sub_cancel, ← tsum_mul, ← tsum_mul, isum_tsum]
  rw [tsum_more (n := s) (m := last) n3]
  · refine tsum_congr fun t ht => ?_
    rw [← isum_mul, ← isum_mul, ← isum_mul]
    refine isum_congr fun y _ _ => ?_
    rw [if_pos ht, show last - (s - t) = (last - s) + t by omega, pow_split]
    generalize way (evH h l t) (evL h l t) y = a
    generalize R (s - t) (x - y) = b
    generalize (2 : Int) ^ (last - s) = p
    generalize (2 : Int) ^ t = q
    simp only [Int.mul_comm, Int.mul_left_comm, Int.mul_assoc]
  · intro t t1 _
    refine isum_zero fun y _ _ => ?_
    rw [if_neg (by omega), Int.mul_zero]
end Nd
namespace Nd
/-! signs by turns -/
/-- sum and hand (true: to the left) behind m numbers, o telling which are odd -/
def runS (b : Bool) (o : Nat → Bool) (c : Nat → Int) : Nat → Int × Bool
  | 0 => (0, b)
  | m + 1 => if o m = true then ((runS b o c m).1 + (if (runS b o c m).2 = true then - c m else c m), !(runS b o c m).2) else runS b o c m
theorem runS_odd {b o c m} (h : o m = true) : runS b o c (m + 1) = ((runS b o c m).1 + (if (runS b o c m).2 = true then - c m else c m), !(runS b o c m).2) := by
  simp only [runS]; rw [if_pos h]
theorem runS_even {b o c m} (h : o m = false) : runS b o c (m + 1) = runS b o c m := by
  simp only [runS]; rw [if_neg (by rw [h]; simp)]
theorem runS_congr {b : Bool} {o o' : Nat → Bool} {c : Nat → Int} {m : Nat} (h : ∀ j, j < m → o j = o' j) : runS b o c m = runS b o' c m := by
  induction m with
  | zero => rfl
  | succ m ih =>
    have e := ih (fun j hj => h j (by omega))
    have em := h m (by omega)
    simp only [runS]
    rw [e, em]
/-- numbers that are 0 at the end change no sum -/
theorem runS_tail {b : Bool} {o : Nat → Bool} {c : Nat → Int} {k m : Nat} (hk : k ≤ m) (h : ∀ j, k ≤ j → j < m → c j = 0) : (runS b o c m).1 = (runS b o c k).1 := by
  induction m with
  | zero => rw [show k = 0 by omega]
  | succ m ih =>
    by_cases e : k = m + 1
    · rw [e]
    · have i := ih (by omega) (fun j h1 h2 => h j h1 (by omega))
      by_cases ho : o m = true
      · rw [runS_odd ho, h m (by omega) (by omega)]
        show (runS b o c m).1 + (if (runS b o c m).2 = true then -(0 : Int) else 0) = _
        rw [← i]
        split <;> omega
      · rw [runS_even (by simpa using ho), i]
theorem runS_none {b : Bool} {o : Nat → Bool} {c : Nat → Int} {m : Nat} (h : ∀ j, j < m → o j = false) : runS b o c m = (0, b) := by
  induction m with
  | zero => rfl
  | succ m ih => rw [runS_even (h m (by omega)), ih (fun j hj => h j (by omega))]
/-- the two best sums, and which numbers make them: (up, picks), (down, picks) -/
def dp (c : Nat → Int) : Nat → (Int × List Nat) × (Int × List Nat)
  | 0 => ((0, []), (0, []))
  | m + 1 =>
    let u := (dp c m).1
    let d := (dp c m).2
    (if u.1 < d.1 + c m then (d.1 + c m, d.2 ++ [m]) else u, if d.1 < u.1 - c m then (u.1 - c m, u.2 ++ [m]) else d)
def dpTop (c : Nat → Int) (m : Nat) : Int × List Nat := if (dp c m).1.1 < (dp c m).2.1 then (dp c m).2 else (dp c m).1
/-- the first sign is -1 -/
def dpLeft (c : Nat → Int) (m : Nat) : Bool :=
  let last := decide ((dp c m).1.1 < (dp c m).2.1)
  let p := (dpTop c m).2
  if p = [] then false else if p.length % 2 = 1 then last else !last
def best (c : Nat → Int) (m : Nat) : Int := (dpTop c m).1
theorem best_max (c : Nat → Int) (m : Nat) : (dp c m).1.1 ≤ best c m ∧ (dp c m).2.1 ≤ best c m := by
  unfold best dpTop
  by_cases h : (dp c m).1.1 < (dp c m).2.1
  · rw [if_pos h]; omega
  · rw [if_neg h]; omega
theorem dp_up (c : Nat → Int) (m : Nat) : (dp c m).1.1 ≤ (dp c (m + 1)).1.1 ∧ (dp c m).2.1 + c m ≤ (dp c (m + 1)).1.1 := by
  simp only [dp]
  by_cases h : (dp c m).1.1 < (dp c m).2.1 + c m
  · rw [if_pos h]; dsimp only; omega
  · rw [if_neg h]; omega
theorem dp_down (c : Nat → Int) (m : Nat) : (dp c m).2.1 ≤ (dp c (m + 1)).2.1 ∧ (dp c m).1.1 - c m ≤ (dp c (m + 1)).2.1 := by
  simp only [dp]
  by_cases h : (dp c m).2.1 < (dp c m).1.1 - c m
  · rw [if_pos h]; dsimp only; omega
  · rw [if_neg h]; omega
/-- no sum by turns is above the best -/
theorem runS_le_dp (b : Bool) (o : Nat → Bool) (c : Nat → Int) : ∀ m, (runS b o c m).1 ≤ (if (runS b o c m).2 = true then (dp c m).1.1 else (dp c m).2.1)
  | 0 => by
    show (0 : Int) ≤ (if b = true then 0 else 0)
    split <;> omega
  | m + 1 => by
    have ih := runS_le_dp b o c m
    have h1 := dp_up c m
    have h2 := dp_down c m
    by_cases ho : o m = true
    · rw [runS_odd ho]
      cases e : (runS b o c m).2
      · rw [e] at ih
        simp only [Bool.not_false, if_true, Bool.false_eq_true, if_false] at ih ⊢
        omega
      · rw [e] at ih
        simp only [Bool.not_true, if_true, Bool.false_eq_true, if_false] at ih ⊢
        omega
    · rw [runS_even (by simpa using ho)]
      cases e : (runS b o c m).2
      · rw [e] at ih
        simp only [Bool.false_eq_true, if_false] at ih ⊢
        omega
      · rw [e] at ih
        simp only [if_true] at ih ⊢
        omega
theorem runS_le (b : Bool) (o : Nat → Bool) (c : Nat → Int) (m : Nat) : (runS b o c m).1 ≤ best c m := by
  have h := runS_le_dp b o c m
  have h2 := best_max c m
  split at h <;> omega
theorem runS_turn (b : Bool) (o : Nat → Bool) (c : Nat → Int) : ∀ m, runS (!b) o c m = (- (runS b o c m).1, !(runS b o c m).2)
  | 0 => rfl
  | m + 1 => by
    have ih := runS_turn b o c m
    by_cases ho : o m = true
    · rw [runS_odd ho, runS_odd ho, ih]
      cases (runS b o c m).2 <;> simp <;> omega
    · rw [runS_even (by simpa using ho), runS_even (by simpa using ho), ih]
theorem runS_ge (b : Bool) (o : Nat → Bool) (c : Nat → Int) (m : Nat) : -(best c m) ≤ (runS b o c m).1 := by
  have h := runS_le (!b) o c m
  rw [runS_turn] at h
  dsimp only at h
  omega
/-- the picks keep below -/
theorem dp_below (c : Nat → Int) : ∀ m, (∀ j ∈ (dp c m).1.2, j < m) ∧ (∀ j ∈ (dp c m).2.2, j < m)
  | 0 => ⟨fun j h => by simp [dp] at h, fun j h => by simp [dp] at h⟩
  | m + 1 => by
    obtain ⟨h1, h2⟩ := dp_below c m
    constructor
    · intro j hj
      simp only [dp] at hj
      split at hj
      · rcases List.mem_append.mp hj with h | h
        · have := h2 j h; omega
        · have := List.mem_singleton.mp h; omega
      · have := h1 j hj; omega
    · intro j hj
      simp only [dp] at hj
      split at hj
      · rcases List.mem_append.mp hj with h | h
        · have := h1 j h; omega
        · have := List.mem_singleton.mp h; omega
      · have := h2 j hj; omega
def oddL (p : List Nat) : Bool := decide (p.length % 2 = 1)
def inL (p : List Nat) (j : Nat) : Bool := decide (j ∈ p)
theorem oddL_snoc (p : List Nat) (j : Nat) : oddL (p ++ [j]) = !oddL p := by
  unfold oddL
  rw [List.length_append, List.length_singleton]
  by_cases h : p.length % 2 = 1
  · rw [decide_eq_true h, decide_eq_false (by omega)]; rfl
  · rw [decide_eq_false h, decide_eq_true (by omega)]; rfl
/-- what the picks make: begun with the sign that their number tells -/
theorem dp_runs (c : Nat → Int) : ∀ m, runS (!oddL (dp c m).1.2) (inL (dp c m).1.2) c m = ((dp c m).1.1, true) ∧ runS (oddL (dp c m).2.2) (inL (dp c m).2.2) c m = ((dp c m).2.1, false)
  | 0 => by
    refine ⟨?_, ?_⟩
    · rfl
    · rfl
  | m + 1 => by
    obtain ⟨h1, h2⟩ := dp_runs c m
    obtain ⟨b1, b2⟩ := dp_below c m
    have out1 : inL (dp c m).1.2 m = false := decide_eq_false fun h => by have := b1 m h; omega
    have out2 : inL (dp c m).2.2 m = false := decide_eq_false fun h => by have := b2 m h; omega
    constructor
    · simp only [dp]
      split
      · dsimp only
        rw [oddL_snoc, Bool.not_not, runS_odd (by unfold inL; simp)]
        rw [runS_congr (o' := inL (dp c m).2.2) (fun j hj => by unfold inL; simp [show j ≠ m by omega]), h2]
        simp
      · rw [runS_even out1, h1]
    · simp only [dp]
      split
      · dsimp only
        rw [oddL_snoc, runS_odd (by unfold inL; simp)]
        rw [runS_congr (o' := inL (dp c m).1.2) (fun j hj => by unfold inL; simp [show j ≠ m by omega]), h1]
        simp [Int.sub_eq_add_neg]
      · rw [runS_even out2, h2]
/-- the told picks, begun as told, make the best sum -/
theorem dpTop_run (c : Nat → Int) (m : Nat) : (runS (dpLeft c m) (inL (dpTop c m).2) c m).1 = best c m := by
  obtain ⟨h1, h2⟩ := dp_runs c m
  by_cases h : (dp c m).1.1 < (dp c m).2.1
  · have e : dpTop c m = (dp c m).2 := by unfold dpTop; rw [if_pos h]
    unfold best dpLeft
    rw [e]
    by_cases hp : (dp c m).2.2 = []
    · rw [runS_none (fun j _ => by unfold inL; rw [hp]; simp)]
      rw [runS_none (fun j _ => by unfold inL; rw [hp]; simp)] at h2
      exact congrArg (·.1) h2
    · dsimp only
      rw [if_neg hp, decide_eq_true h]
      have : (if (dp c m).2.2.length % 2 = 1 then true else !true) = oddL (dp c m).2.2 := by
        unfold oddL
        by_cases q : (dp c m).2.2.length % 2 = 1
        · rw [if_pos q, decide_eq_true q]
        · rw [if_neg q, decide_eq_false q]; rfl
      rw [this, h2]
  · have e : dpTop c m = (dp c m).1 := by unfold dpTop; rw [if_neg h]
    unfold best dpLeft
    rw [e]
    by_cases hp : (dp c m).1.2 = []
    · rw [runS_none (fun j _ => by unfold inL; rw [hp]; simp)]
      rw [runS_none (fun j _ => by unfold inL; rw [hp]; simp)] at h1
      exact congrArg (·.1) h1
    · dsimp only
      rw [if_neg hp, decide_eq_false h]
      have : (if (dp c m).1.2.length % 2 = 1 then false else !false) = !oddL (dp c m).1.2 := by
        unfold oddL
        by_cases q : (dp c m).1.2.length % 2 = 1
        · rw [if_pos q, decide_eq_true q]; rfl
        · rw [if_neg q, decide_eq_false q]
      rw [this, h1]
/-- numbers alike have the same -/
theorem dp_congr {c c' : Nat → Int} {m : Nat} (h : ∀ j, j < m → c j = c' j) : dp c m = dp c' m := by
  induction m with
  | zero => rfl
  | succ m ih => simp only [dp]; rw [ih (fun j hj => h j (by omega)), h m (by omega)]
theorem best_congr {c c' : Nat → Int} {m : Nat} (h : ∀ j, j < m → c j = c' j) : best c m = best c' m := by
  unfold best dpTop; rw [dp_congr h]
theorem best_zero {c : Nat → Int} {m : Nat} (h : ∀ j, j < m → c j = 0) : best c m = 0 := by
  have e : best c m = best (fun _ => 0) m := best_congr h
  rw [e]
  have : ∀ m, dp (fun _ => 0) m = ((0, []), (0, [])) := by
    intro m
    induction m with
    | zero => rfl
    | succ m ih => simp only [dp, ih]; rfl
  unfold best dpTop
  rw [this]; rfl
theorem best_nonneg (c : Nat → Int) (m : Nat) : 0 ≤ best c m := by
  have h1 := runS_le false (fun _ => false) c m
  rw [runS_none (fun _ _ => rfl)] at h1
  exact h1
/-- the best of numbers turned over, and of numbers taken so many times -/
theorem best_le_of {c c' : Nat → Int} {m : Nat} (h : ∀ j, c' j = - c j) : best c' m ≤ best c m := by
  have e := dpTop_run c' m
  rw [← e]
  have : ∀ b o k, runS b o c' k = runS (!b) o c k ∨ True := fun _ _ _ => .inr trivial
  have key : ∀ (b : Bool) (o : Nat → Bool) (k : Nat), (runS b o c' k).1 = -(runS b o c k).1 ∧ (runS b o c' k).2 = (runS b o c k).2 := by
    intro b o k
    induction k with
    | zero => exact ⟨rfl, rfl⟩
    | succ k ih =>
      obtain ⟨i1, i2⟩ := ih
      by_cases ho : o k = true
      · rw [runS_odd ho, runS_odd ho, i1, i2, h k]
        refine ⟨?_, rfl⟩
        dsimp only
        split <;> omega
      · rw [runS_even (by simpa using ho), runS_even (by simpa using ho)]
        exact ⟨i1, i2⟩
  rw [(key _ _ _).1]
  have g := runS_ge (dpLeft c' m) (inL (dpTop c' m).2) c m
  omega
theorem best_neg {c : Nat → Int} {m : Nat} : best (fun j => - c j) m = best c m := by
  have h1 := best_le_of (c := c) (c' := fun j => - c j) (m := m) (fun _ => rfl)
  have h2 := best_le_of (c := fun j => - c j) (c' := c) (m := m) (fun j => (Int.neg_neg _).symm)
  omega
theorem dp_mul {c : Nat → Int} {k : Int} (hk : 0 < k) : ∀ m, (dp (fun j => k * c j) m).1.1 = k * (dp c m).1.1 ∧ (dp (fun j => k * c j) m).2.1 = k * (dp c m).2.1
  | 0 => by simp [dp]
  | m + 1 => by
    obtain ⟨i1, i2⟩ := dp_mul hk m
    simp only [dp]
    rw [i1, i2, ← Int.mul_add, ← Int.mul_sub]
    have l : ∀ a b : Int, k * a < k * b ↔ a < b := fun a b => ⟨fun h => Int.lt_of_mul_lt_mul_left h (by omega), fun h => Int.mul_lt_mul_of_pos_left h hk⟩
    simp only [l]
    constructor
    · split
      · rfl
      · exact i1
    · split
      · rfl
      · exact i2
theorem best_mul {c : Nat → Int} {k : Int} {m : Nat} (hk : 0 < k) : best (fun j => k * c j) m = k * best c m := by
  obtain ⟨i1, i2⟩ := dp_mul (c := c) hk m
  unfold best dpTop
  have l : ∀ a b : Int, k * a < k * b ↔ a < b := fun a b => ⟨fun h => Int.lt_of_mul_lt_mul_left h (by omega), fun h => Int.mul_lt_mul_of_pos_left h hk⟩
  rw [i1, i2]
  simp only [l]
  split
  · exact i2
  · exact i1
end Nd
namespace Nd
theorem stepH_zero {h : HF} {l : LF} {x : Int} (h1 : h (x - 1) = 0) (h2 : h (x + 1) = 0) : stepH h l x = 0 := by
  unfold stepH leftOf b2
  rw [h1, h2]
  split <;> split <;> decide
/-- heaps of one colour -/
def Col (h : HF) (col : Int) : Prop := ∀ y, y % 2 ≠ col → h y = 0
theorem col_ev {h : HF} {l : LF} {col : Int} (hc : Col h col) (h01 : col = 0 ∨ col = 1) : ∀ t y, (y + (t : Nat)) % 2 ≠ col → evH h l t y = 0
  | 0, y, hy => hc y (by simpa using hy)
  | t + 1, y, hy => by
    rw [evH_succ]
    exact stepH_zero (col_ev hc h01 t (y - 1) (by omega)) (col_ev hc h01 t (y + 1) (by omega))
theorem way_zero {h : HF} {l : LF} {y : Int} (e : h y = 0) : way h l y = 0 := by
  unfold way; rw [e]; rfl
def par (y col : Int) : Nat := ((y + col) % 2).toNat
def cnt (p last : Nat) : Nat := (last + 1 - p) / 2
theorem par_lt (y col : Int) : par y col < 2 := by unfold par; omega
theorem par_col {y col : Int} (h01 : col = 0 ∨ col = 1) (t : Nat) : (y + (t : Int)) % 2 = col ↔ t % 2 = par y col := by
  unfold par
  rcases h01 with rfl | rfl <;> omega
abbrev oddAt (h : HF) (l : LF) (y : Int) (p : Nat) : Nat → Bool := fun j => decide (evH h l (p + 2 * j) y % 2 = 1)
section
variable {h : HF} {l : LF} {y col : Int} {f : Nat → Int}
theorem evL_even {t : Nat} (e : evH h l t y = 0) : evL h l (t + 1) y = evL h l t y := by
  rw [evL_succ]; unfold stepL; rw [e]; rfl
theorem sub_run (h01 : col = 0 ∨ col = 1) (hz : ∀ t, (y + (t : Nat)) % 2 ≠ col → evH h l t y = 0) : ∀ j,
    (tsum (par y col + 2 * j) (fun t => way (evH h l t) (evL h l t) y * f t), evL h l (par y col + 2 * j) y) = runS (l y) (oddAt h l y (par y col)) (fun j => f (par y col + 2 * j)) j
  | 0 => by
    have := par_lt y col
    rcases Nat.lt_or_ge 0 (par y col) with hp | hp
    · have e : par y col = 1 := by omega
      rw [e]
      simp only [tsum, runS]
      have z := hz 0 (fun q => by have := (par_col h01 0).mp q; omega)
      rw [way_zero z, evL_even z]
      simp
      rfl
    · have e : par y col = 0 := by omega
      rw [e]
      rfl
  | j + 1 => by
    have ih := sub_run h01 hz j
    have hp := par_lt y col
    have z := hz (par y col + 2 * j + 1) (fun q => by have := (par_col h01 _).mp q; omega)
    rw [show par y col + 2 * (j + 1) = par y col + 2 * j + 1 + 1 by omega]
    simp only [tsum]
    rw [way_zero z, evL_even z, Int.zero_mul, Int.add_zero, evL_succ]
    have i1 := congrArg (·.1) ih
    have i2 := congrArg (·.2) ih
    dsimp only at i1 i2
    by_cases o : evH h l (par y col + 2 * j) y % 2 = 1
    · rw [runS_odd (decide_eq_true o), ← i1, ← i2]
      unfold stepL way
      rw [if_pos o, if_pos o]
      refine Prod.ext ?_ rfl
      dsimp only
      split <;> omega
    · rw [runS_even (decide_eq_false o), ← ih]
      unfold stepL way
      rw [if_neg o, if_neg o]
      refine Prod.ext ?_ rfl
      dsimp only
      omega
theorem sub_sum {last : Nat} (h01 : col = 0 ∨ col = 1) (hz : ∀ t, (y + (t : Nat)) % 2 ≠ col → evH h l t y = 0) :
    tsum last (fun t => way (evH h l t) (evL h l t) y * f t) = (runS (l y) (oddAt h l y (par y col)) (fun j => f (par y col + 2 * j)) (cnt (par y col) last)).1 := by
  have s := congrArg (·.1) (sub_run (f := f) h01 hz (cnt (par y col) last))
  dsimp only at s
  rw [← s]
  have hp := par_lt y col
  rcases Nat.lt_or_ge last (par y col) with q | q
  · -- nothing of the colour
    have e : cnt (par y col) last = 0 := by unfold cnt; omega
    rw [e, Nat.mul_zero, Nat.add_zero]
    refine (tsum_more (Nat.le_of_lt q) fun t t1 t2 => ?_).symm
    rw [way_zero (hz t (fun z => by have := (par_col h01 _).mp z; omega)), Int.zero_mul]
  · have e : par y col + 2 * cnt (par y col) last = last ∨ par y col + 2 * cnt (par y col) last = last + 1 := by unfold cnt; omega
    rcases e with e | e
    · rw [e]
    · rw [e]
      simp only [tsum]
      rw [way_zero (hz last (fun z => by have := (par_col h01 _).mp z; omega)), Int.zero_mul, Int.add_zero]
end
/-! the reach -/
abbrev chgs (rows : List Row) (last : Nat) (col y : Int) : Nat → Int := fun j => chg rows last y (par y col + 2 * j)
def bestAt (rows : List Row) (last : Nat) (col y : Int) : Int := best (chgs rows last col y) (cnt (par y col) last)
def Reach (rows : List Row) (last : Nat) (col : Int) : Int := isum WL WN (bestAt rows last col)
theorem gap_le {rows : List Row} {last B : Nat} {col : Int} {h : HF} {l : LF} (nr : Near B rows last) (hB : B + last + 5 < 200) (h01 : col = 0 ∨ col = 1) (hc : Col h col) :
    gap2 rows last h l ≤ Reach rows last col ∧ -(Reach rows last col) ≤ gap2 rows last h l := by
  rw [gap_told nr hB]
  have e : ∀ y, tsum last (fun t => way (evH h l t) (evL h l t) y * chg rows last y t) = (runS (l y) (oddAt h l y (par y col)) (chgs rows last col y) (cnt (par y col) last)).1 :=
    fun y => sub_sum h01 (fun t ht => col_ev hc h01 t y ht)
  unfold Reach
  constructor
  · refine isum_le fun y _ _ => ?_
    rw [e y]
    exact runS_le _ _ _ _
  · rw [← isum_neg]
    refine isum_le fun y _ _ => ?_
    rw [e y]
    exact runS_ge _ _ _ _
/-! the cone -/
def InCone (low high : Int) (last : Nat) (y : Int) (t : Nat) : Prop := low - ((last : Int) - t) ≤ y ∧ y ≤ high + ((last : Int) - t)
theorem chg_out {rows : List Row} {last : Nat} {low high y : Int} {t : Nat} (hr : ∀ r ∈ rows, low ≤ r.1 ∧ r.1 ≤ high ∧ r.2.1 ≤ last) (ht : t < last) (ho : ¬ InCone low high last y t) : chg rows last y t = 0 := by
  unfold chg
  refine lsum_zero fun r hm => ?_
  obtain ⟨a, b, c⟩ := hr r hm
  split
  · rw [R_far (by unfold InCone at ho; omega), Int.mul_zero, Int.zero_mul]
  · rfl
/-- each spot adds its best: the gap is the reach -/
theorem gap_best {rows : List Row} {last B : Nat} {col low high : Int} {h : HF} {l : LF} (nr : Near B rows last) (hB : B + last + 5 < 200) (h01 : col = 0 ∨ col = 1) (hc : Col h col)
    (hr : ∀ r ∈ rows, low ≤ r.1 ∧ r.1 ≤ high ∧ r.2.1 ≤ last)
    (hw : ∀ y, (∀ t, t < last → chg rows last y t = 0) ∨ (((dpTop (chgs rows last col y) (cnt (par y col) last)).2 = [] ∨ l y = dpLeft (chgs rows last col y) (cnt (par y col) last)) ∧
      ∀ t, t < last → (y + (t : Nat)) % 2 = col → InCone low high last y t → (evH h l t y % 2 = 1 ↔ ∃ j ∈ (dpTop (chgs rows last col y) (cnt (par y col) last)).2, t = par y col + 2 * j))) :
    gap2 rows last h l = Reach rows last col := by
  rw [gap_told nr hB]
  unfold Reach
  refine isum_congr fun y _ _ => ?_
  rw [sub_sum (col := col) h01 (fun t ht => col_ev hc h01 t y ht)]
  unfold bestAt
  show (runS (l y) (oddAt h l y (par y col)) (chgs rows last col y) (cnt (par y col) last)).1 = _
  have hp := par_lt y col
  have hm : ∀ j, j < cnt (par y col) last → par y col + 2 * j < last := fun j hj => by unfold cnt at hj; omega
  have hcol : ∀ j, (y + ((par y col + 2 * j : Nat) : Int)) % 2 = col := fun j => (par_col h01 _).mpr (by omega)
  rcases hw y with hz | ⟨hl, ho⟩
  · rw [best_zero (fun j hj => hz _ (hm j hj)), runS_tail (k := 0) (Nat.zero_le _) (fun j _ hj => hz _ (hm j hj))]
    rfl
  · generalize hmm : cnt (par y col) last = m at *
    generalize hcc : chgs rows last col y = c at *
    -- the first place outside the cone
    obtain ⟨k, hk, hin, hout⟩ : ∃ k, k ≤ m ∧ (∀ j, j < k → InCone low high last y (par y col + 2 * j)) ∧ ∀ j, k ≤ j → j < m → c j = 0 := by
      have key : ∀ n, n ≤ m → ∃ k, k ≤ n ∧ (∀ j, j < k → InCone low high last y (par y col + 2 * j)) ∧ ∀ j, k ≤ j → j < n → ¬ InCone low high last y (par y col + 2 * j) := by
        intro n
        induction n with
        | zero => exact fun _ => ⟨0, Nat.le_refl _, fun j hj => absurd hj (by omega), fun j _ hj => absurd hj (by omega)⟩
        | succ n ih =>
          intro hn
          obtain ⟨k, k1, k2, k3⟩ := ih (by omega)
          by_cases q : InCone low high last y (par y col + 2 * n)
          · refine ⟨n + 1, Nat.le_refl _, fun j hj => ?_, fun j h1 h2 => absurd h2 (by omega)⟩
            unfold InCone at q ⊢
            omega
          · refine ⟨k, by omega, k2, fun j h1 h2 => ?_⟩
            by_cases e : j = n
            · rw [e]; exact q
            · exact k3 j h1 (by omega)
      obtain ⟨k, k1, k2, k3⟩ := key m (Nat.le_refl _)
      refine ⟨k, k1, k2, fun j h1 h2 => ?_⟩
      rw [← hcc]
      exact chg_out hr (hm j h2) (k3 j h1 h2)
    have hodd : ∀ j, j < k → oddAt h l y (par y col) j = inL (dpTop c m).2 j := by
      intro j hj
      have q := ho (par y col + 2 * j) (hm j (by omega)) (hcol j) (hin j hj)
      unfold oddAt inL
      refine decide_eq_decide.mpr (q.trans ⟨?_, fun z => ⟨j, z, rfl⟩⟩)
      rintro ⟨i, hi, e⟩
      rw [show j = i by omega]
      exact hi
    rw [runS_tail hk hout, runS_congr hodd]
    rcases hl with hnil | hl
    · rw [hnil, runS_none (fun j _ => by unfold inL; simp)]
      have e := dpTop_run c m
      rw [hnil, runS_none (fun j _ => by unfold inL; simp)] at e
      exact e
    · have e := dpTop_run c m
      rw [runS_tail hk hout] at e
      rw [hl, e]
/-! turned over, taken three times, moved, laid together, at a later scale -/
def scaleR (k : Int) (rows : List Row) : List Row := rows.map fun r => (r.1, r.2.1, r.2.2 * k)
def moveR (k : Int) (rows : List Row) : List Row := rows.map fun r => (r.1 + k, r.2.1, r.2.2)
theorem chg_scale {k : Int} {rows : List Row} {last : Nat} {y : Int} {t : Nat} : chg (scaleR k rows) last y t = k * chg rows last y t := by
  unfold chg scaleR
  rw [lsum_map, ← lsum_mul]
  refine lsum_congr fun r _ => ?_
  dsimp only
  split
  · simp only [Int.mul_comm, Int.mul_left_comm, Int.mul_assoc]
  · simp
theorem gap_scale {k : Int} {rows : List Row} {last : Nat} {h : HF} {l : LF} : gap2 (scaleR k rows) last h l = k * gap2 rows last h l := by
  unfold gap2 scaleR
  rw [lsum_map, ← lsum_mul]
  refine lsum_congr fun r _ => ?_
  dsimp only
  rw [Int.mul_comm r.2.2 k, Int.mul_assoc]
theorem reach_neg {rows : List Row} {last : Nat} {col : Int} : Reach (scaleR (-1) rows) last col = Reach rows last col := by
  unfold Reach
  refine isum_congr fun y _ _ => ?_
  unfold bestAt
  rw [← best_neg (c := chgs rows last col y)]
  refine best_congr fun j _ => ?_
  unfold chgs
  rw [chg_scale]; omega
theorem reach_mul {k : Int} (hk : 0 < k) {rows : List Row} {last : Nat} {col : Int} : Reach (scaleR k rows) last col = k * Reach rows last col := by
  unfold Reach
  rw [← isum_mul]
  refine isum_congr fun y _ _ => ?_
  unfold bestAt
  rw [← best_mul hk]
  refine best_congr fun j _ => ?_
  unfold chgs
  rw [chg_scale]
theorem chg_move {k : Int} {rows : List Row} {last : Nat} {y : Int} {t : Nat} : chg (moveR k rows) last y t = chg rows last (y - k) t := by
  unfold chg moveR
  rw [lsum_map]
  refine lsum_congr fun r _ => ?_
  dsimp only
  rw [show r.1 + k - y = r.1 - (y - k) by omega]
theorem bestAt_far {rows : List Row} {last B : Nat} {col y : Int} (nr : Near B rows last) (h : y < -((B : Int) + last) ∨ (B : Int) + last < y) : bestAt rows last col y = 0 := by
  unfold bestAt
  refine best_zero fun j hj => ?_
  have hp := par_lt y col
  refine chg_out (low := -(B : Int)) (high := B) (fun r hr => nr r hr) (by unfold cnt at hj; omega) ?_
  unfold InCone
  omega
theorem reach_move {k : Int} (hk : k % 2 = 0) {rows : List Row} {last B : Nat} {col : Int} (nr : Near B rows last) (hB : (B : Int) + last + 5 + k.natAbs < 200) : Reach (moveR k rows) last col = Reach rows last col := by
  unfold Reach
  have w1 := wl_eq
  have w2 := wn_eq
  rw [← isum_moved (k := -k) (a := -((B : Int) + last)) (m := 2 * (B + last) + 1) (by omega) (by omega) (by omega) (by omega) (f := bestAt rows last col) (fun y hy => bestAt_far nr (by omega))]
  refine isum_congr fun y _ _ => ?_
  unfold bestAt
  have e : par (y + -k) col = par y col := by unfold par; omega
  rw [e]
  refine best_congr fun j _ => ?_
  unfold chgs
  rw [chg_move, e]; rfl
theorem ev_move {k : Int} {h : HF} {l : LF} : ∀ t, evH (fun y => h (y - k)) (fun y => l (y - k)) t = (fun y => evH h l t (y - k)) ∧ evL (fun y => h (y - k)) (fun y => l (y - k)) t = (fun y => evL h l t (y - k))
  | 0 => ⟨rfl, rfl⟩
  | t + 1 => by
    obtain ⟨i1, i2⟩ := ev_move (k := k) (h := h) (l := l) t
    constructor
    · funext x
      rw [evH_succ, evH_succ, i1, i2]
      unfold stepH leftOf
      dsimp only
      rw [show x - 1 - k = x - k - 1 by omega, show x + 1 - k = x - k + 1 by omega]
    · funext x
      rw [evL_succ, evL_succ, i1, i2]
      rfl
theorem mean_move {k : Int} {h : HF} {x : Int} {s B : Nat} (hx : -(B : Int) ≤ x ∧ x ≤ B) (hB : (B : Int) + s + 5 + k.natAbs < 200) : meanS (fun y => h (y - k)) (x + k) s = meanS h x s := by
  have w1 := wl_eq
  have w2 := wn_eq
  unfold meanS
  rw [← isum_moved (k := -k) (a := x - s) (m := 2 * s + 1) (by omega) (by omega) (by omega) (by omega) (f := fun y => h y * P s (x - y)) (fun y hy => by rw [P_far (by omega), Int.mul_zero])]
  refine isum_congr fun y _ _ => ?_
  dsimp only
  rw [show x + k - y = x - (y + -k) by omega]; rfl
theorem gap_move {k : Int} {rows : List Row} {last B : Nat} {h : HF} {l : LF} (nr : Near B rows last) (hB : (B : Int) + last + 5 + k.natAbs < 200) : gap2 (moveR k rows) last (fun y => h (y - k)) (fun y => l (y - k)) = gap2 rows last h l := by
  unfold gap2 moveR
  rw [lsum_map]
  refine lsum_congr fun r hr => ?_
  obtain ⟨n1, n2, n3⟩ := nr r hr
  dsimp only
  rw [mean_move ⟨n1, n2⟩ (by omega), (ev_move r.2.1).1]
  dsimp only
  rw [show r.1 + k - k = r.1 by omega]
theorem gap_append {r1 r2 : List Row} {last : Nat} {h : HF} {l : LF} : gap2 (r1 ++ r2) last h l = gap2 r1 last h l + gap2 r2 last h l := lsum_append
theorem gap_perm {r1 r2 : List Row} {last : Nat} {h : HF} {l : LF} (p : r1.Perm r2) : gap2 r1 last h l = gap2 r2 last h l := lsum_perm p
theorem gap_later {rows : List Row} {last late : Nat} {h : HF} {l : LF} (hr : ∀ r ∈ rows, r.2.1 ≤ last) (hl : last ≤ late) : gap2 rows late h l = 2 ^ (late - last) * gap2 rows last h l := by
  unfold gap2
  rw [← lsum_mul]
  refine lsum_congr fun r hm => ?_
  have := hr r hm
  rw [show late = (late - last) + last by omega, show (late - last) + last - last = late - last by omega, show (late - last) + last - r.2.1 = (late - last) + (last - r.2.1) by omega, pow_split, pow_split, Int.mul_assoc, Int.mul_assoc, ← Int.mul_sub]
  simp only [Int.mul_left_comm]
/-- the heaps matter on the line alone -/
theorem gap_fun {rows : List Row} {last : Nat} {h h' : HF} {l l' : LF} (e1 : ∀ y, h y = h' y) (e2 : ∀ y, l y = l' y) : gap2 rows last h l = gap2 rows last h' l' := by
  rw [funext e1, funext e2]
end Nd
namespace Nd
/-! tables of ints -/
abbrev Tab := List (Int × Int)
def lookI : Tab → Int → Option Int
  | [], _ => none
  | p :: r, k => if p.1 = k then some p.2 else lookI r k
def gets (L : Tab) (k : Int) : Int := (lookI L k).getD 0
def hasI (L : Tab) (k : Int) : Bool := L.any fun p => decide (p.1 = k)
def putI (L : Tab) (k v : Int) : Tab := if hasI L k = true then L.map (fun p => if p.1 = k then (p.1, v) else p) else L ++ [(k, v)]
theorem lookI_none {L : Tab} {k : Int} : hasI L k = false → lookI L k = none := by
  induction L with
  | nil => intro _; rfl
  | cons p r ih =>
    intro h
    unfold hasI at h ih
    simp only [List.any_cons, Bool.or_eq_false_iff, decide_eq_false_iff_not] at h
    simp only [lookI]
    rw [if_neg h.1]
    exact ih h.2
theorem lookI_snoc {L : Tab} {k v x : Int} (h : hasI L k = false) : lookI (L ++ [(k, v)]) x = if x = k then some v else lookI L x := by
  induction L with
  | nil =>
    simp only [List.nil_append, lookI]
    by_cases e : k = x
    · rw [if_pos e, if_pos e.symm]
    · rw [if_neg e, if_neg (fun q => e q.symm)]
  | cons p r ih =>
    unfold hasI at h ih
    simp only [List.any_cons, Bool.or_eq_false_iff, decide_eq_false_iff_not] at h
    simp only [List.cons_append, lookI]
    rw [ih h.2]
    by_cases e : p.1 = x
    · rw [if_pos e, if_pos e, if_neg (fun q => h.1 (e.trans q))]
    · rw [if_neg e, if_neg e]
theorem lookI_map {L : Tab} {k v x : Int} (h : hasI L k = true) : lookI (L.map fun p => if p.1 = k then (p.1, v) else p) x = if x = k then some v else lookI L x := by
  induction L with
  | nil => simp [hasI] at h
  | cons p r ih =>
    simp only [List.map_cons, lookI]
    by_cases e : p.1 = k
    · rw [if_pos e]
      dsimp only
      by_cases f : p.1 = x
      · rw [if_pos f, if_pos (by omega)]
      · rw [if_neg f]
        by_cases g : hasI r k = true
        · rw [ih g, if_neg (by omega), if_neg (by omega), if_neg f]
        · have : (r.map fun p => if p.1 = k then (p.1, v) else p) = r := by
            refine (List.map_congr_left fun q hq => if_neg fun z => g ?_).trans (List.map_id _)
            exact List.any_eq_true.mpr ⟨q, hq, decide_eq_true z⟩
          rw [this, if_neg (by omega), if_neg f]
    · rw [if_neg e]
      have hr : hasI r k = true := by
        unfold hasI at h ⊢
        simp only [List.any_cons, Bool.or_eq_true, decide_eq_true_eq] at h
        rcases h with h | h
        · exact absurd h e
        · exact h
      rw [ih hr]
      by_cases f : p.1 = x
      · rw [if_pos f, if_pos f, if_neg (fun q => e (f.trans q))]
      · rw [if_neg f, if_neg f]
theorem lookI_put {L : Tab} {k v x : Int} : lookI (putI L k v) x = if x = k then some v else lookI L x := by
  unfold putI
  split
  · rename_i h; exact lookI_map h
  · rename_i h; exact lookI_snoc (by simpa using h)
theorem gets_put {L : Tab} {k v x : Int} : gets (putI L k v) x = if x = k then v else gets L x := by
  unfold gets
  rw [lookI_put]
  split <;> rfl
theorem keys_put {L : Tab} {k v : Int} : (putI L k v).map (·.1) = if hasI L k = true then L.map (·.1) else L.map (·.1) ++ [k] := by
  unfold putI
  split
  · rw [List.map_map]
    refine List.map_congr_left fun p _ => ?_
    dsimp only [Function.comp]
    split <;> rfl
  · simp
theorem hasI_mem {L : Tab} {k : Int} : hasI L k = true ↔ k ∈ L.map (·.1) := by
  unfold hasI
  simp [List.any_eq_true]
theorem nodup_put {L : Tab} {k v : Int} (h : (L.map (·.1)).Nodup) : ((putI L k v).map (·.1)).Nodup := by
  rw [keys_put]
  split
  · exact h
  · rename_i hk
    refine List.nodup_append.mpr ⟨h, by simp, ?_⟩
    intro a ha b hb e
    rw [List.mem_singleton] at hb
    exact hk (hasI_mem.mpr (by rw [← hb, ← e]; exact ha))
theorem length_put {L : Tab} {k v : Int} : (putI L k v).length ≤ L.length + 1 := by
  unfold putI
  split
  · rw [List.length_map]; omega
  · rw [List.length_append, List.length_singleton]; omega
/-- what stands in the table: an old pair at another key, or the new one -/
theorem mem_put {L : Tab} {k v : Int} {p : Int × Int} (h : p ∈ putI L k v) : (p ∈ L ∧ p.1 ≠ k) ∨ p = (k, v) := by
  unfold putI at h
  split at h
  · obtain ⟨q, hq, e⟩ := List.mem_map.mp h
    by_cases z : q.1 = k
    · rw [if_pos z] at e
      exact .inr (by rw [← e, z])
    · rw [if_neg z] at e
      exact .inl (by rw [← e]; exact ⟨hq, z⟩)
  · rename_i hk
    rcases List.mem_append.mp h with m | m
    · exact .inl ⟨m, fun z => hk (hasI_mem.mpr (by rw [← z]; exact List.mem_map_of_mem m))⟩
    · exact .inr (List.mem_singleton.mp m)
theorem lookI_mem {L : Tab} {p : Int × Int} (hn : (L.map (·.1)).Nodup) (h : p ∈ L) : lookI L p.1 = some p.2 := by
  induction L with
  | nil => simp at h
  | cons q r ih =>
    rw [List.map_cons, List.nodup_cons] at hn
    simp only [lookI]
    rcases List.mem_cons.mp h with e | e
    · rw [e, if_pos rfl]
    · rw [if_neg (fun z => hn.1 (by rw [z]; exact List.mem_map_of_mem e)), ih hn.2 e]
theorem lookI_in {L : Tab} {k v : Int} (h : lookI L k = some v) : (k, v) ∈ L := by
  induction L with
  | nil => simp [lookI] at h
  | cons q r ih =>
    simp only [lookI] at h
    by_cases e : q.1 = k
    · rw [if_pos e] at h
      have : q = (k, v) := Prod.ext e (Option.some.inj h)
      rw [this]; exact List.mem_cons_self
    · rw [if_neg e] at h
      exact List.mem_cons_of_mem _ (ih h)
theorem gets_perm {L M : Tab} (hn : (L.map (·.1)).Nodup) (p : L.Perm M) (k : Int) : gets L k = gets M k := by
  have hm : (M.map (·.1)).Nodup := (p.map (·.1)).nodup_iff.mp hn
  unfold gets
  congr 1
  cases e : lookI L k with
  | some v => exact (lookI_mem hm (p.subset (lookI_in e))).symm
  | none =>
    cases f : lookI M k with
    | none => rfl
    | some v =>
      have := lookI_mem hn (p.symm.subset (lookI_in f))
      dsimp only at this
      rw [this] at e; cases e
theorem gets_of {L : Tab} {k : Int} (P : Int → Prop) (h0 : P 0) (h : ∀ p ∈ L, P p.2) : P (gets L k) := by
  unfold gets
  cases e : lookI L k with
  | none => exact h0
  | some v => exact h _ (lookI_in e)
/-- pairs with 0 left out -/
theorem gets_filter {L : Tab} {g : Int × Int → Bool} (hn : (L.map (·.1)).Nodup) (hg : ∀ p ∈ L, g p = false → p.2 = 0) (k : Int) : gets (L.filter g) k = gets L k := by
  have hm : ((L.filter g).map (·.1)).Nodup := List.Nodup.sublist (List.Sublist.map _ List.filter_sublist) hn
  unfold gets
  cases e : lookI L k with
  | none =>
    cases f : lookI (L.filter g) k with
    | none => rfl
    | some v =>
      have := lookI_mem hn (List.mem_filter.mp (lookI_in f)).1
      dsimp only at this
      rw [this] at e; cases e
  | some v =>
    by_cases z : g (k, v) = true
    · have := lookI_mem hm (List.mem_filter.mpr ⟨lookI_in e, z⟩)
      dsimp only at this
      rw [this]
    · have h0 := hg _ (lookI_in e) (by simpa using z)
      dsimp only at h0
      subst h0
      cases f : lookI (L.filter g) k with
      | none => rfl
      | some u =>
        have := lookI_mem hn (List.mem_filter.mp (lookI_in f)).1
        dsimp only at this
        rw [e] at this
        rw [← this]
/-- a mean is a sum over the heaps -/
theorem mean_list {x : Int} {s : Nat} : ∀ {L : Tab}, (L.map (·.1)).Nodup → (∀ p ∈ L, WL ≤ p.1 ∧ p.1 < WL + WN) → lsum (fun p => p.2 * P s (x - p.1)) L = meanS (gets L) x s
  | [], _, _ => by
    unfold meanS
    exact (isum_zero (fun y _ _ => by show (0 : Int) * _ = 0; exact Int.zero_mul _)).symm
  | p :: r, hn, hw => by
    rw [List.map_cons, List.nodup_cons] at hn
    obtain ⟨w1, w2⟩ := hw p (by simp)
    have ih := mean_list (x := x) (s := s) hn.2 (fun q hq => hw q (by simp [hq]))
    simp only [lsum]
    rw [ih]
    unfold meanS
    have o := isum_one (lo := WL) (n := WN) (z := p.1) (c := p.2) w1 w2 (fun y => P s (x - y))
    rw [← o, ← isum_add]
    refine isum_congr fun y _ _ => ?_
    by_cases e : y = p.1
    · have z : gets r y = 0 := by
        unfold gets
        rw [lookI_none]; rfl
        have := mt hasI_mem.mp (e ▸ hn.1)
        simpa using this
      have z2 : gets (p :: r) y = p.2 := by
        unfold gets
        simp only [lookI]
        rw [if_pos e.symm]; rfl
      rw [if_pos e, z, z2]; omega
    · have z2 : gets (p :: r) y = gets r y := by
        unfold gets
        simp only [lookI]
        rw [if_neg (fun q => e q.symm)]
      rw [if_neg e, z2]; omega
/-! bounds -/
theorem step_bound {h : HF} {l : LF} {B : Int} (hb : ∀ y, 0 ≤ h y ∧ h y ≤ B) (x : Int) : 0 ≤ stepH h l x ∧ stepH h l x ≤ 2 * B := by
  unfold stepH leftOf b2
  have h1 := hb (x - 1)
  have h2 := hb (x + 1)
  split <;> split <;> omega
theorem ev_bound {h : HF} {l : LF} {B : Int} (hb : ∀ y, 0 ≤ h y ∧ h y ≤ B) : ∀ t y, 0 ≤ evH h l t y ∧ evH h l t y ≤ 2 ^ t * B
  | 0, y => by
    have := hb y
    show 0 ≤ h y ∧ h y ≤ 1 * B
    omega
  | t + 1, y => by
    rw [evH_succ, Int.pow_succ, Int.mul_comm (2 ^ t) 2, Int.mul_assoc]
    exact step_bound (ev_bound hb t) y
/-! 2 ** T chips more at z -/
theorem left_even {h : HF} {l : LF} {k : HF} {y : Int} : leftOf (fun x => h x + 2 * k x) l y = leftOf h l y + k y := by
  unfold leftOf
  dsimp only
  omega
theorem step_even {h : HF} {l : LF} {k : HF} : stepH (fun x => h x + 2 * k x) l = (fun x => stepH h l x + (k (x - 1) + k (x + 1))) ∧ stepL (fun x => h x + 2 * k x) l = stepL h l := by
  constructor
  · funext x
    unfold stepH
    rw [left_even, left_even]
    dsimp only
    omega
  · funext y
    unfold stepL
    dsimp only
    rw [show (h y + 2 * k y) % 2 = h y % 2 by omega]
theorem ev_more {h : HF} {l : LF} {z : Int} {T : Nat} : ∀ t, t ≤ T →
    evH (fun x => h x + (if x = z then 2 ^ T else 0)) l t = (fun x => evH h l t x + 2 ^ (T - t) * P t (x - z)) ∧ evL (fun x => h x + (if x = z then 2 ^ T else 0)) l t = evL h l t
  | 0, _ => by
    refine ⟨?_, rfl⟩
    funext x
    show h x + _ = h x + 2 ^ T * P 0 (x - z)
    simp only [P]
    by_cases e : x = z
    · rw [if_pos e, if_pos (by omega)]; omega
    · rw [if_neg e, if_neg (by omega)]; omega
  | t + 1, ht => by
    obtain ⟨i1, i2⟩ := ev_more (h := h) (l := l) (z := z) (T := T) t (by omega)
    have e : (fun x => evH h l t x + 2 ^ (T - t) * P t (x - z)) = fun x => evH h l t x + 2 * (2 ^ (T - (t + 1)) * P t (x - z)) := by
      funext x
      rw [show T - t = (T - (t + 1)) + 1 by omega, Int.pow_succ, Int.mul_comm (2 ^ (T - (t + 1))) 2, Int.mul_assoc]
    have s := step_even (h := evH h l t) (l := evL h l t) (k := fun x => 2 ^ (T - (t + 1)) * P t (x - z))
    constructor
    · rw [evH_succ, i1, i2, e, s.1]
      funext x
      rw [evH_succ]
      simp only [P]
      rw [← Int.mul_add, show x - 1 - z = x - z - 1 by omega, show x + 1 - z = x - z + 1 by omega]
    · rw [evL_succ, i1, i2, e, s.2]; rfl
/-- the numbers behind one another -/
def shares (T : Nat) : List Int := (List.range (T + 1)).map fun (j : Nat) => P T (2 * (j : Int) - (T : Int))
/-- chips laid at y, y + 2, .. -/
def laid (here : Tab) (y : Int) : List Int → Nat → Tab
  | [], _ => here
  | m :: r, j => laid (putI here (y + 2 * j) (gets here (y + 2 * j) + m)) y r (j + 1)
theorem laid_gets : ∀ (r : List Int) (here : Tab) (y : Int) (j : Nat) (x : Int), gets (laid here y r j) x = gets here x + (if (x - y) % 2 = 0 ∧ y + 2 * j ≤ x then (r[((x - y) / 2 - j).toNat]?).getD 0 else 0)
  | [], here, y, j, x => by
    simp only [laid]
    split <;> simp
  | m :: r, here, y, j, x => by
    simp only [laid]
    rw [laid_gets r, gets_put]
    by_cases e : x = y + 2 * j
    · rw [if_pos e, if_neg (by omega), if_pos (by omega), show ((x - y) / 2 - (j : Int)).toNat = 0 by omega]
      rw [e]; simp
    · rw [if_neg e]
      by_cases c : (x - y) % 2 = 0 ∧ y + 2 * (j : Int) ≤ x
      · rw [if_pos c, if_pos (by omega)]
        rw [show ((x - y) / 2 - (j : Int)).toNat = ((x - y) / 2 - ((j + 1 : Nat) : Int)).toNat + 1 by omega]
        simp
      · rw [if_neg c, if_neg (by omega)]
theorem laid_shares {here : Tab} {y x : Int} {T : Nat} : gets (laid here y (shares T) 0) x = gets here x + P T (x - (y + T)) := by
  rw [laid_gets]
  congr 1
  unfold shares
  by_cases c : (x - y) % 2 = 0 ∧ y + 2 * ((0 : Nat) : Int) ≤ x
  · rw [if_pos c, List.getElem?_map]
    by_cases d : ((x - y) / 2 - ((0 : Nat) : Int)).toNat < T + 1
    · rw [List.getElem?_range d]
      simp only [Option.map_some, Option.getD_some]
      congr 1
      omega
    · rw [List.getElem?_eq_none (by simp; omega)]
      simp only [Option.map_none, Option.getD_none]
      rw [P_far (by omega)]
  · rw [if_neg c]
    by_cases o : (x - y) % 2 = 0
    · rw [P_far (by omega)]
    · rw [P_odd (by omega)]
theorem laid_nodup : ∀ (r : List Int) (here : Tab) (y : Int) (j : Nat), (here.map (·.1)).Nodup → ((laid here y r j).map (·.1)).Nodup
  | [], _, _, _, h => h
  | m :: r, here, y, j, h => laid_nodup r _ _ _ (nodup_put h)
theorem laid_mem : ∀ (r : List Int) (here : Tab) (y : Int) (j : Nat), (∀ m ∈ r, 0 ≤ m) → (∀ p ∈ here, 0 ≤ p.2) → ∀ p ∈ laid here y r j, 0 ≤ p.2
  | [], _, _, _, _, h => h
  | m :: r, here, y, j, hm, h => by
    refine laid_mem r _ _ _ (fun k hk => hm k (by simp [hk])) fun p hp => ?_
    rcases mem_put hp with q | q
    · exact h p q.1
    · rw [q]
      have g := gets_of (L := here) (k := y + 2 * j) (fun v => 0 ≤ v) (Int.le_refl 0) h
      have := hm m (by simp)
      dsimp only
      omega
theorem shares_nonneg {T : Nat} : ∀ m ∈ shares T, 0 ≤ m := by
  intro m h
  unfold shares at h
  obtain ⟨j, _, rfl⟩ := List.mem_map.mp h
  exact P_nonneg
/-- the numbers behind: each the sum of two neighbours -/
theorem shares_next {T : Nat} : shares (T + 1) = List.zipWith (· + ·) (0 :: shares T) (shares T ++ [0]) := by
  have hl : (shares T).length = T + 1 := by unfold shares; simp
  refine List.ext_getElem? fun i => ?_
  rw [List.getElem?_zipWith]
  unfold shares
  rw [List.getElem?_map]
  by_cases hi : i < T + 2
  · rw [List.getElem?_range (by omega)]
    simp only [Option.map_some]
    rcases Nat.eq_zero_or_pos i with rfl | hp
    · rw [List.getElem?_cons_zero, List.getElem?_append_left (by simp), List.getElem?_map, List.getElem?_range (by omega)]
      simp only [Option.map_some, P]
      rw [P_far (k := T) (d := 2 * ((0 : Nat) : Int) - ((T + 1 : Nat) : Int) - 1) (by omega)]
      congr 2
      congr 1
      omega
    · obtain ⟨j, rfl⟩ : ∃ j, i = j + 1 := ⟨i - 1, by omega⟩
      rw [List.getElem?_cons_succ, List.getElem?_map, List.getElem?_range (by omega)]
      by_cases hj : j + 1 < T + 1
      · rw [List.getElem?_append_left (by simp; omega), List.getElem?_map, List.getElem?_range (by omega)]
        simp only [Option.map_some, P]
        congr 2
        · congr 1; omega
        · congr 1; omega
      · rw [List.getElem?_append_right (by simp; omega)]
        simp only [Option.map_some, P, List.length_map, List.length_range]
        rw [show j + 1 - (T + 1) = 0 by omega, P_far (k := T) (d := 2 * ((j + 1 : Nat) : Int) - ((T + 1 : Nat) : Int) + 1) (by omega)]
        simp only [List.getElem?_cons_zero, Option.map_some, Int.add_zero]
        congr 2
        omega
  · rw [List.getElem?_eq_none (by simp; omega)]
    obtain ⟨j, rfl⟩ : ∃ j, i = j + 1 := ⟨i - 1, by omega⟩
    rw [List.getElem?_cons_succ, List.getElem?_eq_none (by simp; omega)]
    rfl
theorem shares_zero : shares 0 = [1] := by decide
end Nd
namespace Nd
theorem P_edge : ∀ T : Nat, P T (-(T : Int)) = 1
  | 0 => rfl
  | T + 1 => by
    simp only [P]
    rw [P_far (k := T) (d := -((T + 1 : Nat) : Int) - 1) (by omega), show -((T + 1 : Nat) : Int) + 1 = -(T : Int) by omega, P_edge T]; rfl
def isIn (l : List Int) : LF := fun y => decide (y ∈ l)
/-- within tick T, all spots ahead of s seen to -/
structure TickInv (wish : Int → Nat → Bool) (l0 : LF) (col low high : Int) (last T : Nat) (s : Int) (found here : Tab) (hands : List Int) : Prop where
  fn : (found.map (·.1)).Nodup
  fb : ∀ p ∈ found, 1 ≤ p.2 ∧ p.2 < (if p.1 - T < s then 2 ^ (T + 1) else 2 ^ T) ∧ p.1 % 2 = col ∧ low - last ≤ p.1 ∧ p.1 ≤ high + last
  hn : (here.map (·.1)).Nodup
  hp : ∀ p ∈ here, 0 ≤ p.2
  hg : ∀ x, gets here x = evH (gets found) l0 T x
  hl : ∀ y, isIn hands y = evL (gets found) l0 T y
  old : ∀ t, t < T → ∀ y, InCone low high last y t → (y + (t : Nat)) % 2 = col → (evH (gets found) l0 t y % 2 = 1 ↔ wish y t = true)
  now : ∀ y, InCone low high last y T → y < s → (y + (T : Nat)) % 2 = col → (gets here y % 2 = 1 ↔ wish y T = true)
theorem two_pow_pos (n : Nat) : (0 : Int) < 2 ^ n := Int.pow_pos (by decide)
section
variable {wish : Int → Nat → Bool} {l0 : LF} {col low high : Int} {last T : Nat} {s : Int} {found here : Tab} {hands : List Int}
theorem TickInv.start {hands : List Int} : TickInv wish (isIn hands) col low high last 0 (low - last) [] [] hands where
  fn := by simp
  fb := fun p h => by simp at h
  hn := by simp
  hp := fun p h => by simp at h
  hg := fun x => rfl
  hl := fun y => rfl
  old := fun t h => by omega
  now := fun y h1 h2 _ => by unfold InCone at h1; omega
theorem TickInv.pass (I : TickInv wish l0 col low high last T s found here hands) (h : (s + (T : Nat)) % 2 = col → gets here s % 2 = (if wish s T = true then 1 else 0)) : TickInv wish l0 col low high last T (s + 1) found here hands where
  fn := I.fn
  fb := fun p hp => by
    obtain ⟨a, b, c⟩ := I.fb p hp
    refine ⟨a, ?_, c⟩
    have w := two_pow_pos T
    rw [Int.pow_succ] at b ⊢
    split at b <;> split <;> omega
  hn := I.hn
  hp := I.hp
  hg := I.hg
  hl := I.hl
  old := I.old
  now := fun y h1 h2 h3 => by
    by_cases e : y = s
    · have q := h (e ▸ h3)
      rw [e, q]
      split <;> simp [*]
    · exact I.now y h1 (by omega) h3
theorem TickInv.turn (I : TickInv wish l0 col low high last T s found here hands) (hT : T < last) (hs : InCone low high last s T) (hc : (s + (T : Nat)) % 2 = col) (h : gets here s % 2 ≠ (if wish s T = true then 1 else 0)) :
    TickInv wish l0 col low high last T (s + 1) (putI found (s + T) (gets found (s + T) + 2 ^ T)) (laid here s (shares T) 0) hands := by
  have eg : gets (putI found (s + T) (gets found (s + T) + 2 ^ T)) = fun x => gets found x + (if x = s + T then 2 ^ T else 0) := by
    funext x
    rw [gets_put]
    by_cases e : x = s + T
    · rw [if_pos e, if_pos e, e]
    · rw [if_neg e, if_neg e]; omega
  have m := ev_more (h := gets found) (l := l0) (z := s + T) (T := T)
  have w := two_pow_pos T
  exact {
    fn := nodup_put I.fn
    fb := fun p hp => by
      rcases mem_put hp with ⟨q, hk⟩ | q
      · obtain ⟨a, b, c⟩ := I.fb p q
        refine ⟨a, ?_, c⟩
        rw [Int.pow_succ] at b ⊢
        split at b <;> split <;> omega
      · rw [q]
        dsimp only
        have g0 := gets_of (L := found) (k := s + T) (fun v => 0 ≤ v) (Int.le_refl 0) (fun p hp => by have := (I.fb p hp).1; omega)
        have g1 : gets found (s + T) < 2 ^ T := by
          unfold gets
          cases e : lookI found (s + T) with
          | none => exact w
          | some v =>
            have b := (I.fb _ (lookI_in e)).2.1
            dsimp only at b
            rw [if_neg (by omega)] at b
            exact b
        rw [if_pos (by omega), Int.pow_succ]
        unfold InCone at hs
        refine ⟨by omega, by omega, by omega, by omega, by omega⟩
    hn := laid_nodup _ _ _ _ I.hn
    hp := laid_mem _ _ _ _ shares_nonneg I.hp
    hg := fun x => by
      rw [laid_shares, I.hg, eg, (m T (Nat.le_refl _)).1, Nat.sub_self]
      dsimp only
      omega
    hl := fun y => by
      rw [I.hl, eg, (m T (Nat.le_refl _)).2]
    old := fun t ht y h1 h2 => by
      rw [← I.old t ht y h1 h2, eg, (m t (by omega)).1]
      dsimp only
      rw [show T - t = (T - t - 1) + 1 by omega, Int.pow_succ, Int.mul_comm (2 ^ (T - t - 1)) 2, Int.mul_assoc]
      omega
    now := fun y h1 h2 h3 => by
      rw [laid_shares]
      by_cases e : y = s
      · rw [e, show s - (s + (T : Int)) = -(T : Int) by omega, P_edge]
        split at h <;> simp [*] <;> omega
      · rw [P_far (by omega), Int.add_zero]
        exact I.now y h1 (by omega) h3 }
theorem TickInv.next {here' : Tab} {hands' : List Int} (I : TickInv wish l0 col low high last T (high + ((last : Int) - T) + 1) found here hands) (hn : (here'.map (·.1)).Nodup) (hp : ∀ p ∈ here', 0 ≤ p.2)
    (hg : ∀ x, gets here' x = stepH (gets here) (isIn hands) x) (hl : ∀ y, isIn hands' y = stepL (gets here) (isIn hands) y) :
    TickInv wish l0 col low high last (T + 1) (low - ((last : Int) - ((T + 1 : Nat) : Int))) found here' hands' where
  fn := I.fn
  fb := fun p hp => by
    obtain ⟨a, b, c⟩ := I.fb p hp
    refine ⟨a, ?_, c⟩
    have w := two_pow_pos T
    have e1 : (2 : Int) ^ (T + 1) = 2 ^ T * 2 := Int.pow_succ ..
    have e2 : (2 : Int) ^ (T + 1 + 1) = 2 ^ T * 2 * 2 := by rw [Int.pow_succ, Int.pow_succ]
    rw [e2, e1]
    rw [e1] at b
    split at b <;> split <;> omega
  hn := hn
  hp := hp
  hg := fun x => by
    rw [hg, evH_succ, funext I.hg, funext I.hl]
  hl := fun y => by
    rw [hl, evL_succ, funext I.hg, funext I.hl]
  old := fun t ht y h1 h2 => by
    by_cases e : t = T
    · rw [e] at h1 h2 ⊢
      rw [← I.hg]
      exact I.now y h1 (by unfold InCone at h1; omega) h2
    · exact I.old t (by omega) y h1 h2
  now := fun y h1 h2 _ => by unfold InCone at h1; omega
end
/-! what a worst start of a look is -/
def Wish (rows : List Row) (last : Nat) (col y : Int) (t : Nat) : Bool := decide (∃ j ∈ (dpTop (chgs rows last col y) (cnt (par y col) last)).2, t = par y col + 2 * j)
def LeftAt (rows : List Row) (last : Nat) (col y : Int) : Bool := dpLeft (chgs rows last col y) (cnt (par y col) last)
structure WorstOk (B : Nat) (rows : List Row) (last : Nat) (col : Int) (F : Tab) (Ls : List Int) : Prop where
  up : F.Pairwise (fun p q => p.1 < q.1)
  fb : ∀ p ∈ F, 1 ≤ p.2 ∧ p.2 < 2 ^ (last + 1) ∧ p.1 % 2 = col ∧ -((B : Int) + last) ≤ p.1 ∧ p.1 ≤ B + last
  lu : Ls.Pairwise (· < ·)
  lb : ∀ y ∈ Ls, -((B : Int) + last) ≤ y ∧ y ≤ B + last
  gap : gap2 rows last (gets F) (isIn Ls) = Reach rows last col
theorem up_nodup {F : Tab} (h : F.Pairwise (fun p q => p.1 < q.1)) : (F.map (·.1)).Nodup := by
  refine List.pairwise_map.mpr (h.imp ?_)
  intro a b h e
  omega
theorem isIn_eq {l : List Int} {y : Int} {b : Bool} (h : y ∈ l ↔ b = true) : isIn l y = b := by
  unfold isIn
  cases b
  · exact decide_eq_false (by simpa using h)
  · exact decide_eq_true (by simpa using h)
theorem col_gets {F : Tab} {col : Int} (h : ∀ p ∈ F, p.1 % 2 = col) : Col (gets F) col := by
  intro y hy
  unfold gets
  cases e : lookI F y with
  | none => rfl
  | some v => exact absurd (h _ (lookI_in e)) hy
theorem worst_made {B : Nat} {rows : List Row} {last : Nat} {col low high : Int} {found here F : Tab} {hands Ls : List Int} {s : Int} (nr : Near B rows last) (hB : B + last + 5 < 200) (h01 : col = 0 ∨ col = 1)
    (hr : ∀ r ∈ rows, low ≤ r.1 ∧ r.1 ≤ high ∧ r.2.1 ≤ last) (hlow : -(B : Int) ≤ low) (hhigh : high ≤ B)
    (I : TickInv (Wish rows last col) (isIn Ls) col low high last last s found here hands) (hs : s ≤ low) (hF : F.Perm found) (hup : F.Pairwise (fun p q => p.1 < q.1))
    (lu : Ls.Pairwise (· < ·)) (lb : ∀ y ∈ Ls, -((B : Int) + last) ≤ y ∧ y ≤ B + last) (hl : ∀ y, y ∈ Ls ↔ LeftAt rows last col y = true) : WorstOk B rows last col F Ls where
  up := hup
  fb := fun p hp => by
    obtain ⟨a, b, c, d, e⟩ := I.fb p (hF.subset hp)
    have w := two_pow_pos last
    rw [Int.pow_succ] at b ⊢
    refine ⟨a, ?_, c, by omega, by omega⟩
    split at b <;> omega
  lu := lu
  lb := lb
  gap := by
    have eg : gets F = gets found := funext fun k => gets_perm (up_nodup hup) hF k
    rw [eg]
    refine gap_best nr hB h01 (col_gets fun p hp => (I.fb p hp).2.2.1) hr fun y => .inr ⟨.inr (isIn_eq (hl y)), fun t ht hc hi => ?_⟩
    refine (I.old t ht y hi hc).trans ?_
    unfold Wish
    exact decide_eq_true_iff
/-- few spots of one colour lie in a narrow row -/
theorem few : ∀ {F : Tab} {a b : Int}, F.Pairwise (fun p q => p.1 < q.1) → (∀ p ∈ F, a ≤ p.1 ∧ p.1 ≤ b ∧ p.1 % 2 = a % 2) → F = [] ∨ a + 2 * (F.length : Int) ≤ b + 2
  | [], a, b, _, _ => .inl rfl
  | p :: r, a, b, h, hb => by
    right
    rw [List.pairwise_cons] at h
    obtain ⟨b1, b2, b3⟩ := hb p (by simp)
    rcases few (F := r) (a := p.1 + 2) (b := b) h.2 (fun q hq => by
      have g := h.1 q hq
      obtain ⟨c1, c2, c3⟩ := hb q (by simp [hq])
      refine ⟨by omega, c2, by omega⟩) with e | e
    · rw [e]; simp; omega
    · rw [List.length_cons]
      omega
end Nd
namespace Nd
/-! fractions in least terms -/
def g0 (a b : Int) : Int := ((Nat.gcd a.natAbs b.natAbs : Nat) : Int)
def lp (a b : Int) : Int × Int := (a / g0 a b, b / g0 a b)
theorem g0_pos {a b : Int} (h : 0 < b) : 0 < g0 a b := by
  unfold g0
  have h3 : 0 < Nat.gcd a.natAbs b.natAbs := Nat.gcd_pos_of_pos_right _ (by omega)
  omega
theorem g0_le {a b : Int} (h : 0 < b) : g0 a b ≤ b := by
  unfold g0
  have h4 : Nat.gcd a.natAbs b.natAbs ≤ b.natAbs := Nat.gcd_le_right _ (by omega)
  omega
theorem g0_ok {a b : Int} (h : 0 < b) (h2 : b < 1073741824) : 0 < g0 a b ∧ g0 a b < 1073741824 := by
  have := g0_pos (a := a) h
  have := g0_le (a := a) h
  omega
theorem g0_dvd_left (a b : Int) : g0 a b ∣ a := by
  unfold g0
  exact Int.dvd_natAbs.mp (Int.natCast_dvd_natCast.mpr (Nat.gcd_dvd_left _ _))
theorem g0_dvd_right (a b : Int) : g0 a b ∣ b := by
  unfold g0
  exact Int.dvd_natAbs.mp (Int.natCast_dvd_natCast.mpr (Nat.gcd_dvd_right _ _))
theorem lp_fst (a b : Int) : g0 a b * (lp a b).1 = a := Int.mul_ediv_cancel' (g0_dvd_left a b)
theorem lp_snd (a b : Int) : g0 a b * (lp a b).2 = b := Int.mul_ediv_cancel' (g0_dvd_right a b)
theorem lp_pos {a b : Int} (h : 0 < b) : 0 < (lp a b).2 := by
  have h1 := lp_snd a b
  have h2 := g0_pos (a := a) h
  exact Int.pos_of_mul_pos_right (by rw [h1]; exact h) h2
theorem lp_le {a b : Int} (h : 0 < b) : (lp a b).2 ≤ b := by
  have h1 := lp_snd a b
  have h2 := g0_pos (a := a) h
  have h3 := lp_pos (a := a) h
  have : 1 * (lp a b).2 ≤ g0 a b * (lp a b).2 := Int.mul_le_mul_of_nonneg_right (by omega) (by omega)
  omega
theorem g0_mul {k a b : Int} (hk : 0 < k) : g0 (k * a) (k * b) = k * g0 a b := by
  unfold g0
  rw [Int.natAbs_mul, Int.natAbs_mul, Nat.gcd_mul_left, Int.natCast_mul]
  congr 1
  omega
theorem lp_mul {k a b : Int} (hk : 0 < k) : lp (k * a) (k * b) = lp a b := by
  unfold lp
  rw [g0_mul hk, Int.mul_ediv_mul_of_pos _ _ hk, Int.mul_ediv_mul_of_pos _ _ hk]
theorem lp_eq {a b c d : Int} (hb : 0 < b) (hd : 0 < d) (h : a * d = c * b) : lp a b = lp c d := by
  rw [← lp_mul (k := d) (a := a) (b := b) hd, ← lp_mul (k := b) (a := c) (b := d) hb]
  congr 1
  · rw [Int.mul_comm d a, h, Int.mul_comm]
  · rw [Int.mul_comm]
theorem lp_inj {x y D : Int} (hD : 0 < D) (h : lp x D = lp y D) : x = y := by
  have h1 := lp_fst x D
  have h2 := lp_fst y D
  have h3 := lp_snd x D
  have h4 := lp_snd y D
  have hp := lp_pos (a := y) hD
  rw [h] at h1 h3
  have e : g0 x D * (lp y D).2 = g0 y D * (lp y D).2 := by rw [h3, h4]
  have eg : g0 x D = g0 y D := Int.eq_of_mul_eq_mul_right (by omega) e
  rw [eg, h2] at h1
  exact h1.symm
theorem lp_zero {D : Int} (hD : 0 < D) : lp 0 D = (0, 1) := by
  have : lp 0 D = lp (D * 0) (D * 1) := by rw [Int.mul_zero, Int.mul_one]
  rw [this, lp_mul hD]
  decide
theorem lp_one (w : Int) : lp w 1 = (w, 1) := by
  unfold lp g0
  have : Nat.gcd w.natAbs (1 : Int).natAbs = 1 := Nat.gcd_one_right _
  rw [this]
  simp
theorem lp_neg {x D : Int} : (-(lp x D).1, (lp x D).2) = lp (-x) D := by
  unfold lp
  have e : g0 (-x) D = g0 x D := by unfold g0; rw [Int.natAbs_neg]
  rw [e, Int.neg_ediv_of_dvd (g0_dvd_left x D)]
/-- the sum of two of one denominator -/
theorem lp_add {x y D : Int} (hD : 0 < D) : lp ((lp x D).1 * (lp y D).2 + (lp y D).1 * (lp x D).2) ((lp x D).2 * (lp y D).2) = lp (x + y) D := by
  have p1 := lp_pos (a := x) hD
  have p2 := lp_pos (a := y) hD
  refine lp_eq (Int.mul_pos p1 p2) hD ?_
  have h1 := lp_fst x D
  have h2 := lp_fst y D
  have h3 := lp_snd x D
  have h4 := lp_snd y D
  generalize (lp x D).1 = a at *; generalize (lp x D).2 = b at *; generalize (lp y D).1 = c at *; generalize (lp y D).2 = d at *
  generalize g0 x D = g at *; generalize g0 y D = k at *
  have e1 : a * d * D = x * (b * d) := by
    rw [← h3, ← h1]
    simp only [Int.mul_comm, Int.mul_left_comm, Int.mul_assoc]
  have e2 : c * b * D = y * (b * d) := by
    rw [← h4, ← h2]
    simp only [Int.mul_comm, Int.mul_left_comm, Int.mul_assoc]
  rw [Int.add_mul, Int.add_mul, e1, e2]
theorem lp_times {w m D : Int} (hD : 0 < D) : lp (w * (lp m D).1) (1 * (lp m D).2) = lp (w * m) D := by
  have p1 := lp_pos (a := m) hD
  rw [Int.one_mul]
  refine lp_eq p1 hD ?_
  have h1 := lp_fst m D
  have h3 := lp_snd m D
  generalize (lp m D).1 = a at *; generalize (lp m D).2 = b at *
  generalize g0 m D = g at *
  rw [← h3, ← h1]
  simp only [Int.mul_comm, Int.mul_left_comm, Int.mul_assoc]
theorem lp_less {x y D : Int} (hD : 0 < D) : (lp x D).1 * (lp y D).2 < (lp y D).1 * (lp x D).2 ↔ x < y := by
  have h1 := lp_fst x D
  have h2 := lp_fst y D
  have h3 := lp_snd x D
  have h4 := lp_snd y D
  have g1 := g0_pos (a := x) hD
  have g2 := g0_pos (a := y) hD
  generalize (lp x D).1 = a at *; generalize (lp x D).2 = b at *; generalize (lp y D).1 = c at *; generalize (lp y D).2 = d at *
  generalize g0 x D = g at *; generalize g0 y D = k at *
  have e1 : g * k * (a * d) = x * D := by
    rw [← h1]
    have : D = k * d := h4.symm
    rw [this]
    simp only [Int.mul_comm, Int.mul_left_comm, Int.mul_assoc]
  have e2 : g * k * (c * b) = y * D := by
    rw [← h2]
    have : D = g * b := h3.symm
    rw [this]
    simp only [Int.mul_comm, Int.mul_left_comm, Int.mul_assoc]
  have gk : 0 < g * k := Int.mul_pos g1 g2
  constructor
  · intro h
    have := Int.mul_lt_mul_of_pos_left h gk
    rw [e1, e2] at this
    exact Int.lt_of_mul_lt_mul_right this (by omega)
  · intro h
    have := Int.mul_lt_mul_of_pos_right h hD
    rw [← e1, ← e2] at this
    exact Int.lt_of_mul_lt_mul_left this (by omega)
theorem lp_scale {x D k : Int} (hk : 0 < k) : lp (k * x) (k * D) = lp x D := lp_mul hk
end Nd
namespace Nd
/-! one tick by tables -/
def sentL (ls : List Int) (p : Int × Int) : Int := (p.2 + b2 (isIn ls p.1)) / 2
def addI (L : Tab) (k v : Int) : Tab := putI L k (gets L k + v)
def tickS (ls : List Int) (z : Tab × Tab) (p : Int × Int) : Tab × Tab :=
  (addI (addI z.1 (p.1 - 1) (sentL ls p)) (p.1 + 1) (p.2 - sentL ls p),
   if sentL ls p = p.2 - sentL ls p then z.2 else putI z.2 p.1 (if gets z.2 p.1 ≠ 0 then 0 else 1))
def tickT (ls : List Int) (hs : Tab) : Tab × Tab := hs.foldl (tickS ls) ([], ls.map fun l => (l, 1))
theorem gets_add {L : Tab} {k v x : Int} : gets (addI L k v) x = gets L x + if x = k then v else 0 := by
  unfold addI
  rw [gets_put]
  by_cases e : x = k
  · rw [if_pos e, if_pos e, e]
  · rw [if_neg e, if_neg e]; omega
theorem tick_take {ls : List Int} {hs : Tab} {i : Nat} {p : Int × Int} (h : hs[i]? = some p) : tickT ls (hs.take (i + 1)) = tickS ls (tickT ls (hs.take i)) p := by
  unfold tickT
  rw [List.take_succ, h, List.foldl_append]
  rfl
theorem gets_nil {x : Int} : gets [] x = 0 := rfl
theorem lookI_app {M : Tab} {x : Int} : ∀ {L : Tab}, lookI (L ++ M) x = (lookI L x).or (lookI M x)
  | [] => by simp [lookI]
  | p :: L => by
    have ih := lookI_app (M := M) (x := x) (L := L)
    have e1 : ∀ N : Tab, lookI (p :: N) x = if p.1 = x then some p.2 else lookI N x := fun _ => rfl
    show lookI (p :: (L ++ M)) x = _
    rw [e1, e1, ih]
    by_cases e : p.1 = x
    · rw [if_pos e, if_pos e]; rfl
    · rw [if_neg e, if_neg e]
theorem gets_snoc {L : Tab} {p : Int × Int} {x : Int} (h : p.1 ∉ L.map (·.1)) : gets (L ++ [p]) x = gets L x + if x = p.1 then p.2 else 0 := by
  unfold gets
  rw [lookI_app]
  by_cases e : x = p.1
  · have n : lookI L x = none := lookI_none (by
      cases hh : hasI L x with
      | false => rfl
      | true => exact absurd (e ▸ hasI_mem.mp hh) h)
    rw [n, if_pos e]
    simp [lookI, e]
  · have : lookI [p] x = none := by
      unfold lookI
      rw [if_neg (fun h => e h.symm)]
      rfl
    rw [this, if_neg e]
    cases lookI L x <;> simp
theorem gets_out {L : Tab} {x : Int} (h : x ∉ L.map (·.1)) : gets L x = 0 := by
  unfold gets
  rw [lookI_none (by
      cases hh : hasI L x with
      | false => rfl
      | true => exact absurd (hasI_mem.mp hh) h)]
  rfl
theorem gets_on {ls : List Int} {x : Int} : decide (gets (ls.map fun l => (l, 1)) x ≠ 0) = isIn ls x := by
  induction ls with
  | nil => rfl
  | cons l ls ih =>
    unfold gets isIn at ih ⊢
    rw [List.map_cons]
    unfold lookI
    by_cases e : l = x
    · rw [if_pos e]; simp [e]
    · rw [if_neg e, ih]
      refine decide_eq_decide.mpr ⟨fun h => List.mem_cons_of_mem _ h, fun h => ?_⟩
      rcases List.mem_cons.mp h with h | h
      · exact absurd h.symm e
      · exact h
/-- all that a tick's tables keep -/
structure TickOk (ls : List Int) (hs : Tab) (z : Tab × Tab) : Prop where
  n1 : (z.1.map (·.1)).Nodup
  n2 : (z.2.map (·.1)).Nodup
  g1 : ∀ x, gets z.1 x = stepH (gets hs) (isIn ls) x
  g2 : ∀ x, decide (gets z.2 x ≠ 0) = stepL (gets hs) (isIn ls) x
  p1 : ∀ p ∈ z.1, 0 ≤ p.2
  l1 : z.1.length ≤ 2 * hs.length
  l2 : z.2.length ≤ ls.length + hs.length
theorem nn_add {L : Tab} {k v : Int} (h : ∀ p ∈ L, 0 ≤ p.2) (hv : 0 ≤ v) : ∀ p ∈ addI L k v, 0 ≤ p.2 := by
  intro p hp
  have g := gets_of (L := L) (k := k) (fun v => 0 ≤ v) (Int.le_refl 0) h
  rcases mem_put hp with ⟨q, _⟩ | q
  · exact h p q
  · rw [q]
    show 0 ≤ gets L k + v
    omega
theorem len_add {L : Tab} {k v : Int} : (addI L k v).length ≤ L.length + 1 := length_put
theorem tick_snoc {ls : List Int} {hs : Tab} {z : Tab × Tab} {p : Int × Int} (I : TickOk ls hs z) (hp : p.1 ∉ hs.map (·.1)) (h0 : 0 ≤ p.2) : TickOk ls (hs ++ [p]) (tickS ls z p) where
  n1 := nodup_put (nodup_put I.n1)
  n2 := by
    unfold tickS
    dsimp only
    split
    · exact I.n2
    · exact nodup_put I.n2
  g1 := fun x => by
    unfold tickS
    dsimp only
    rw [gets_add, gets_add, I.g1 x]
    unfold stepH leftOf sentL
    have e0 := gets_out hp
    have g : ∀ y, gets (hs ++ [p]) y = gets hs y + if y = p.1 then p.2 else 0 := fun y => gets_snoc hp
    rw [g, g]
    have b01 : ∀ y, b2 (isIn ls y) = 0 ∨ b2 (isIn ls y) = 1 := fun y => by unfold b2; cases isIn ls y <;> simp
    have d1 : x - 1 = p.1 → x + 1 ≠ p.1 := fun h => by omega
    by_cases e1 : x = p.1 - 1
    · have e2 : x + 1 = p.1 := by omega
      have e3 : ¬ x - 1 = p.1 := by omega
      have e4 : ¬ x = p.1 + 1 := by omega
      rw [if_pos e1, if_neg e4, if_neg e3, if_pos e2, e2, e0]
      rcases b01 p.1 with b | b <;> rw [b] <;> omega
    · by_cases e4 : x = p.1 + 1
      · have e2 : ¬ x + 1 = p.1 := by omega
        have e3 : x - 1 = p.1 := by omega
        rw [if_neg e1, if_pos e4, if_pos e3, if_neg e2, e3, e0]
        rcases b01 p.1 with b | b <;> rw [b] <;> omega
      · have e2 : ¬ x + 1 = p.1 := by omega
        have e3 : ¬ x - 1 = p.1 := by omega
        rw [if_neg e1, if_neg e4, if_neg e3, if_neg e2, Int.add_zero, Int.add_zero]
        omega
  g2 := fun x => by
    unfold tickS
    dsimp only
    have e0 := gets_out hp
    unfold stepL
    rw [gets_snoc hp]
    have i2 := I.g2 x
    unfold stepL at i2
    have b01 : b2 (isIn ls p.1) = 0 ∨ b2 (isIn ls p.1) = 1 := by unfold b2; cases isIn ls p.1 <;> simp
    have odd : sentL ls p = p.2 - sentL ls p ↔ p.2 % 2 = 0 := by
      unfold sentL
      rcases b01 with b | b <;> rw [b] <;> omega
    by_cases ex : x = p.1
    · rw [if_pos ex, ex, e0, Int.zero_add]
      rw [ex, e0] at i2
      rw [if_neg (by decide)] at i2
      by_cases ho : p.2 % 2 = 0
      · rw [if_pos (odd.mpr ho), if_neg (by omega)]
        exact i2
      · rw [if_neg (fun h => ho (odd.mp h)), if_pos (show p.2 % 2 = 1 by omega), gets_put, if_pos rfl, ← i2]
        by_cases hz : gets z.2 p.1 ≠ 0
        · rw [if_pos hz, decide_eq_true hz]; rfl
        · rw [if_neg hz, decide_eq_false hz]; rfl
    · rw [if_neg ex, Int.add_zero]
      split
      · exact i2
      · rw [gets_put, if_neg ex]; exact i2
  p1 := by
    have b01 : b2 (isIn ls p.1) = 0 ∨ b2 (isIn ls p.1) = 1 := by unfold b2; cases isIn ls p.1 <;> simp
    have s0 : 0 ≤ sentL ls p ∧ sentL ls p ≤ p.2 ∨ p.2 = 0 ∧ sentL ls p = 0 := by
      unfold sentL
      rcases b01 with b | b <;> rw [b] <;> omega
    exact nn_add (nn_add I.p1 (by omega)) (by omega)
  l1 := by
    unfold tickS
    dsimp only
    have a := len_add (L := addI z.1 (p.1 - 1) (sentL ls p)) (k := p.1 + 1) (v := p.2 - sentL ls p)
    have b := len_add (L := z.1) (k := p.1 - 1) (v := sentL ls p)
    have c := I.l1
    rw [List.length_append, List.length_singleton]
    omega
  l2 := by
    unfold tickS
    dsimp only
    have c := I.l2
    rw [List.length_append, List.length_singleton]
    split
    · omega
    · have := length_put (L := z.2) (k := p.1) (v := if gets z.2 p.1 ≠ 0 then 0 else 1)
      omega
theorem tick_all {ls : List Int} (hl : ls.Nodup) {hs : Tab} (hn : (hs.map (·.1)).Nodup) (hp : ∀ p ∈ hs, 0 ≤ p.2) : ∀ i, i ≤ hs.length → TickOk ls (hs.take i) (tickT ls (hs.take i))
  | 0, _ => {
      n1 := by simp [tickT]
      n2 := by
        show ((ls.map fun l => (l, (1 : Int))).map (·.1)).Nodup
        rw [List.map_map, show ((fun x : Int × Int => x.1) ∘ fun l : Int => (l, (1 : Int))) = id from rfl, List.map_id]
        exact hl
      g1 := fun x => by
        show gets [] x = stepH (gets []) (isIn ls) x
        unfold stepH leftOf
        rw [gets_nil, gets_nil, gets_nil]
        have b01 : ∀ y, b2 (isIn ls y) = 0 ∨ b2 (isIn ls y) = 1 := fun y => by unfold b2; cases isIn ls y <;> simp
        rcases b01 (x - 1) with a | a <;> rcases b01 (x + 1) with b | b <;> rw [a, b] <;> rfl
      g2 := fun x => gets_on
      p1 := fun p h => by simp [tickT] at h
      l1 := by simp [tickT]
      l2 := by simp [tickT] }
  | i + 1, hi => by
    have hlt : i < hs.length := by omega
    have e : hs[i]? = some hs[i] := List.getElem?_eq_getElem hlt
    have ih := tick_all hl hn hp i (by omega)
    rw [tick_take e]
    have et : hs.take (i + 1) = hs.take i ++ [hs[i]] := by rw [List.take_succ, e]; rfl
    rw [et]
    refine tick_snoc ih ?_ (hp _ (List.getElem_mem hlt))
    rw [List.map_take]
    intro hm
    obtain ⟨j, hj, ej⟩ := List.mem_iff_getElem.mp hm
    rw [List.length_take] at hj
    rw [List.getElem_take, List.getElem_map] at ej
    have := (List.nodup_iff_pairwise_ne.mp hn)
    have ne := List.pairwise_iff_getElem.mp this j i (by rw [List.length_map]; omega) (by rw [List.length_map]; omega) (by omega)
    rw [List.getElem_map, List.getElem_map] at ne
    exact ne ej
/-- behind a tick: the heaps that hold chips, the hands that point left -/
theorem tick_done {ls : List Int} (hl : ls.Nodup) {hs : Tab} (hn : (hs.map (·.1)).Nodup) (hp : ∀ p ∈ hs, 0 ≤ p.2) {hs' : Tab} {ls' : List Int} (h1 : hs'.Perm ((tickT ls hs).1.filter fun p => decide (0 < p.2)))
    (h2 : ls'.Perm (((tickT ls hs).2.filter fun p => decide (p.2 ≠ 0)).map (·.1))) :
    gets hs' = stepH (gets hs) (isIn ls) ∧ isIn ls' = stepL (gets hs) (isIn ls) ∧ (hs'.map (·.1)).Nodup ∧ ls'.Nodup ∧ (∀ p ∈ hs', 1 ≤ p.2) ∧ hs'.length ≤ 2 * hs.length ∧ ls'.length ≤ ls.length + hs.length := by
  have I := tick_all hl hn hp hs.length (Nat.le_refl _)
  rw [List.take_length] at I
  have nf : (((tickT ls hs).1.filter fun p => decide (0 < p.2)).map (·.1)).Nodup := (List.filter_sublist.map _).nodup I.n1
  have nf2 : (((tickT ls hs).2.filter fun p => decide (p.2 ≠ 0)).map (·.1)).Nodup := (List.filter_sublist.map _).nodup I.n2
  have n1 : (hs'.map (·.1)).Nodup := ((h1.map (·.1)).nodup_iff).mpr nf
  refine ⟨funext fun x => ?_, funext fun x => ?_, n1, (h2.nodup_iff).mpr nf2, fun p hp' => ?_, ?_, ?_⟩
  · rw [gets_perm n1 h1, gets_filter I.n1 (fun p hp' hg => by
      have a := I.p1 p hp'
      have b := of_decide_eq_false hg
      omega), I.g1]
  · rw [← I.g2]
    unfold isIn
    refine decide_eq_decide.mpr ?_
    rw [h2.mem_iff]
    constructor
    · intro h
      obtain ⟨p, hp', rfl⟩ := List.mem_map.mp h
      obtain ⟨a, b⟩ := List.mem_filter.mp hp'
      unfold gets
      rw [lookI_mem I.n2 a]
      exact of_decide_eq_true b
    · intro h
      unfold gets at h
      cases e : lookI (tickT ls hs).2 x with
      | none => rw [e] at h; exact absurd rfl h
      | some v =>
        rw [e] at h
        exact List.mem_map.mpr ⟨(x, v), List.mem_filter.mpr ⟨lookI_in e, decide_eq_true h⟩, rfl⟩
  · have := List.mem_filter.mp (h1.mem_iff.mp hp')
    have := of_decide_eq_true this.2
    omega
  · have a := h1.length_eq
    have b := List.length_filter_le (fun p : Int × Int => decide (0 < p.2)) (tickT ls hs).1
    have c := I.l1
    omega
  · have a := h2.length_eq
    rw [List.length_map] at a
    have b := List.length_filter_le (fun p : Int × Int => decide (p.2 ≠ 0)) (tickT ls hs).2
    have c := I.l2
    omega
end Nd
namespace Nd
/-! changes by tables -/
def cntT (k : Nat) : Tab := (List.range ((k + 1) / 2)).map fun (i : Nat) => (2 - (k : Int) % 2 + 2 * (i : Int), R k (2 - (k : Int) % 2 + 2 * (i : Int)))
theorem look_map_range {f : Nat → Int} {g : Nat → Int} : ∀ {n : Nat} {j : Nat}, (∀ i i', f i = f i' → i = i') → j < n → lookI ((List.range n).map fun i => (f i, g i)) (f j) = some (g j) := by
  intro n j inj hj
  have hn : (((List.range n).map fun i => (f i, g i)).map (·.1)).Nodup := by
    rw [List.map_map]
    unfold List.Nodup
    rw [List.pairwise_map]
    exact (List.nodup_range (n := n)).imp fun h e => h (inj _ _ e)
  exact lookI_mem (p := (f j, g j)) hn (List.mem_map.mpr ⟨j, List.mem_range.mpr hj, rfl⟩)
theorem gets_cnt {k : Nat} {d : Int} (hd : 1 ≤ d) : gets (cntT k) d = R k d := by
  by_cases h : d ≤ k ∧ (d - k) % 2 = 0
  · have e : d = 2 - (k : Int) % 2 + 2 * (((d - (2 - (k : Int) % 2)) / 2).toNat : Nat) := by omega
    have hj : ((d - (2 - (k : Int) % 2)) / 2).toNat < (k + 1) / 2 := by omega
    have := look_map_range (f := fun (i : Nat) => 2 - (k : Int) % 2 + 2 * (i : Int)) (g := fun (i : Nat) => R k (2 - (k : Int) % 2 + 2 * (i : Int))) (n := (k + 1) / 2) (j := ((d - (2 - (k : Int) % 2)) / 2).toNat) (fun i i' h => by omega) hj
    unfold gets cntT
    rw [← e] at this
    rw [this]
    rfl
  · have z : R k d = 0 := by
      cases k with
      | zero => rfl
      | succ k =>
        by_cases hk : ((k + 1 : Nat) : Int) < d
        · exact R_far (.inl hk)
        · simp only [R]
          rw [P_odd (k := k) (d := d - 1) (by omega), P_odd (k := k) (d := d + 1) (by omega)]
          rfl
    rw [z]
    refine gets_out fun hm => h ?_
    obtain ⟨p, hp, rfl⟩ := List.mem_map.mp hm
    obtain ⟨i, hi, rfl⟩ := List.mem_map.mp hp
    have := List.mem_range.mp hi
    dsimp only
    omega
theorem P_le : ∀ {k : Nat} {d : Int}, P k d ≤ 2 ^ k
  | 0, d => by simp only [P]; split <;> decide
  | k + 1, d => by
    simp only [P]
    have a := P_le (k := k) (d := d - 1)
    have b := P_le (k := k) (d := d + 1)
    rw [Int.pow_succ]
    omega
theorem R_le {k : Nat} {d : Int} : -(2 ^ k) ≤ R k d ∧ R k d ≤ 2 ^ k := by
  cases k with
  | zero => simp only [R]; decide
  | succ k =>
    simp only [R]
    have a := P_le (k := k) (d := d - 1)
    have b := P_le (k := k) (d := d + 1)
    have a0 := P_nonneg (k := k) (d := d - 1)
    have b0 := P_nonneg (k := k) (d := d + 1)
    rw [Int.pow_succ]
    omega
/-- the next count, far by far -/
theorem cnt_step {k i : Nat} : ((if (1 : Int) < 2 - ((k + 1 : Nat) : Int) % 2 + 2 * (i : Int) then gets (cntT k) (2 - ((k + 1 : Nat) : Int) % 2 + 2 * (i : Int) - 1) else (if ((k + 1 : Nat) : Int) = 1 then 1 else 0)) + gets (cntT k) (2 - ((k + 1 : Nat) : Int) % 2 + 2 * (i : Int) + 1)) =
    R (k + 1) (2 - ((k + 1 : Nat) : Int) % 2 + 2 * (i : Int)) := by
  have hf : 1 ≤ 2 - ((k + 1 : Nat) : Int) % 2 + 2 * (i : Int) := by omega
  generalize hd : 2 - ((k + 1 : Nat) : Int) % 2 + 2 * (i : Int) = d at hf
  rw [gets_cnt (d := d + 1) (by omega)]
  by_cases h1 : 1 < d
  · rw [if_pos h1, gets_cnt (d := d - 1) (by omega)]
    by_cases hk : 1 ≤ k
    · rw [R_succ hk]
    · have : k = 0 := by omega
      subst this
      simp only [R, P]
      rw [if_neg (by omega), if_neg (by omega)]; rfl
  · rw [if_neg h1]
    have ed : d = 1 := by omega
    subst ed
    by_cases hk : 1 ≤ k
    · rw [if_neg (by omega), R_succ hk, show (1 : Int) - 1 = 0 from rfl, R_zero]
    · have : k = 0 := by omega
      subst this
      decide
/-- the changes of one row, as they are listed -/
abbrev Chg := Int × Nat × Int
def chFar (r : Row) (last t : Nat) (f : Int × Int) : List Chg := [(r.1 - f.1, t, r.2.2 * f.2 * 2 ^ (last - (r.2.1 - t))), (r.1 + f.1, t, -(r.2.2 * f.2 * 2 ^ (last - (r.2.1 - t))))]
def chTick (r : Row) (last t : Nat) : List Chg := ((cntT (r.2.1 - t)).map (chFar r last t)).flatten
def chRow (r : Row) (last : Nat) : List Chg := ((List.range r.2.1).map (chTick r last)).flatten
def chAll (rows : List Row) (last : Nat) : List Chg := (rows.map fun r => chRow r last).flatten
def sumAt (cs : List Chg) (y : Int) (t : Nat) : Int := lsum (fun c => if c.1 = y ∧ c.2.1 = t then c.2.2 else 0) cs
theorem lsum_flatten {α : Type} {f : α → Int} : ∀ {ls : List (List α)}, lsum f ls.flatten = lsum (fun l => lsum f l) ls
  | [] => rfl
  | l :: ls => by
    rw [List.flatten_cons, lsum_append, lsum_flatten]
    rfl
theorem lsum_tab {L : Tab} (hn : (L.map (·.1)).Nodup) {x : Int} : lsum (fun p => if p.1 = x then p.2 else 0) L = gets L x := by
  induction L with
  | nil => rfl
  | cons p L ih =>
    have h2 := List.nodup_cons.mp (show (p.1 :: L.map (·.1)).Nodup from hn)
    show (if p.1 = x then p.2 else 0) + lsum (fun p => if p.1 = x then p.2 else 0) L = _
    rw [ih h2.2]
    unfold gets
    show _ = (if p.1 = x then some p.2 else lookI L x).getD 0
    by_cases e : p.1 = x
    · rw [if_pos e, if_pos e]
      have := gets_out (L := L) (x := x) (e ▸ h2.1)
      unfold gets at this
      rw [this]
      simp
    · rw [if_neg e, if_neg e]; simp
theorem cnt_nodup {k : Nat} : ((cntT k).map (·.1)).Nodup := by
  unfold cntT
  rw [List.map_map]
  unfold List.Nodup
  rw [List.pairwise_map]
  exact (List.nodup_range (n := (k + 1) / 2)).imp fun h e => h (by dsimp only [Function.comp] at e; omega)
theorem cnt_pos {k : Nat} {p : Int × Int} (h : p ∈ cntT k) : 1 ≤ p.1 ∧ p.1 ≤ k ∧ p.2 = R k p.1 := by
  obtain ⟨i, hi, rfl⟩ := List.mem_map.mp h
  have := List.mem_range.mp hi
  dsimp only
  omega
theorem sum_tick {r : Row} {last t s : Nat} {y : Int} : lsum (fun c : Chg => if c.1 = y ∧ c.2.1 = s then c.2.2 else 0) (chTick r last t) = if t = s then r.2.2 * R (r.2.1 - t) (r.1 - y) * 2 ^ (last - (r.2.1 - t)) else 0 := by
  unfold chTick
  rw [lsum_flatten, lsum_map]
  by_cases e : t = s
  · rw [if_pos e]
    have h1 : lsum (fun f : Int × Int => lsum (fun c : Chg => if c.1 = y ∧ c.2.1 = s then c.2.2 else 0) (chFar r last t f)) (cntT (r.2.1 - t)) =
        lsum (fun f : Int × Int => (r.2.2 * 2 ^ (last - (r.2.1 - t))) * ((if f.1 = r.1 - y then f.2 else 0) + -1 * (if f.1 = y - r.1 then f.2 else 0))) (cntT (r.2.1 - t)) := by
      refine lsum_congr fun f _ => ?_
      unfold chFar
      show (if r.1 - f.1 = y ∧ t = s then _ else 0) + ((if r.1 + f.1 = y ∧ t = s then _ else 0) + 0) = _
      have c1 : (r.1 - f.1 = y ∧ t = s) ↔ f.1 = r.1 - y := ⟨fun h => by omega, fun h => ⟨by omega, e⟩⟩
      have c2 : (r.1 + f.1 = y ∧ t = s) ↔ f.1 = y - r.1 := ⟨fun h => by omega, fun h => ⟨by omega, e⟩⟩
      simp only [c1, c2]
      by_cases a1 : f.1 = r.1 - y
      · rw [if_pos a1, if_pos a1]
        by_cases a2 : f.1 = y - r.1
        · rw [if_pos a2, if_pos a2]
          grind
        · rw [if_neg a2, if_neg a2]
          grind
      · rw [if_neg a1, if_neg a1]
        by_cases a2 : f.1 = y - r.1
        · rw [if_pos a2, if_pos a2]
          grind
        · rw [if_neg a2, if_neg a2]
          grind
    rw [h1, lsum_mul, lsum_add, lsum_mul, lsum_tab cnt_nodup, lsum_tab cnt_nodup]
    have key : gets (cntT (r.2.1 - t)) (r.1 - y) + -1 * gets (cntT (r.2.1 - t)) (y - r.1) = R (r.2.1 - t) (r.1 - y) := by
      by_cases p1 : 1 ≤ r.1 - y
      · rw [gets_cnt p1, gets_out (fun hm => ?_)]
        · omega
        · obtain ⟨p, hp, ep⟩ := List.mem_map.mp hm
          have := cnt_pos hp
          omega
      · by_cases p2 : 1 ≤ y - r.1
        · rw [gets_cnt p2, gets_out (fun hm => ?_)]
          · rw [show y - r.1 = -(r.1 - y) by omega, R_anti]
            omega
          · obtain ⟨p, hp, ep⟩ := List.mem_map.mp hm
            have := cnt_pos hp
            omega
        · have z : r.1 - y = 0 := by omega
          have z2 : y - r.1 = 0 := by omega
          rw [z, z2, R_zero, gets_out (fun hm => ?_)]
          · rfl
          · obtain ⟨p, hp, ep⟩ := List.mem_map.mp hm
            have := cnt_pos hp
            omega
    rw [key]
    grind
  · rw [if_neg e]
    refine lsum_zero fun f _ => ?_
    unfold chFar
    show (if r.1 - f.1 = y ∧ t = s then _ else 0) + ((if r.1 + f.1 = y ∧ t = s then _ else 0) + 0) = 0
    rw [if_neg (fun h => e h.2), if_neg (fun h => e h.2)]
    rfl
theorem lsum_range {n s : Nat} {f : Nat → Int} : lsum (fun t => if t = s then f t else 0) (List.range n) = if s < n then f s else 0 := by
  induction n with
  | zero => rfl
  | succ n ih =>
    rw [List.range_succ, lsum_append, ih]
    show _ + ((if n = s then f n else 0) + 0) = _
    by_cases e : n = s
    · subst e
      rw [if_neg (by omega), if_pos rfl, if_pos (by omega)]; omega
    · rw [if_neg e]
      by_cases h : s < n
      · rw [if_pos h, if_pos (by omega)]; omega
      · rw [if_neg h, if_neg (by omega)]; rfl
theorem sum_all {rows : List Row} {last s : Nat} {y : Int} : sumAt (chAll rows last) y s = chg rows last y s := by
  unfold sumAt chAll chg
  rw [lsum_flatten, lsum_map]
  refine lsum_congr fun r _ => ?_
  unfold chRow
  rw [lsum_flatten, lsum_map]
  rw [lsum_congr (g := fun t => if t = s then r.2.2 * R (r.2.1 - t) (r.1 - y) * 2 ^ (last - (r.2.1 - t)) else 0) (fun t _ => sum_tick), lsum_range]
/-- where changes may lie -/
theorem ch_in {rows : List Row} {last : Nat} {c : Chg} (h : c ∈ chAll rows last) : ∃ r ∈ rows, c.2.1 < r.2.1 ∧ r.1 - r.2.1 ≤ c.1 ∧ c.1 ≤ r.1 + r.2.1 ∧ ((c.1 + (c.2.1 : Nat)) - (r.1 + (r.2.1 : Nat))) % 2 = 0 := by
  unfold chAll at h
  obtain ⟨l, hl, hc⟩ := List.mem_flatten.mp h
  obtain ⟨r, hr, rfl⟩ := List.mem_map.mp hl
  obtain ⟨l2, hl2, hc⟩ := List.mem_flatten.mp hc
  obtain ⟨t, ht, rfl⟩ := List.mem_map.mp hl2
  obtain ⟨l3, hl3, hc⟩ := List.mem_flatten.mp hc
  obtain ⟨f, hf, rfl⟩ := List.mem_map.mp hl3
  have := List.mem_range.mp ht
  have a := cnt_pos hf
  obtain ⟨i, hi, ef⟩ := List.mem_map.mp hf
  have e1 : f.1 = 2 - ((r.2.1 - t : Nat) : Int) % 2 + 2 * (i : Int) := by rw [← ef]
  refine ⟨r, hr, ?_⟩
  unfold chFar at hc
  rcases List.mem_cons.mp hc with rfl | hc
  · dsimp only
    omega
  · rw [List.mem_singleton] at hc
    subst hc
    dsimp only
    omega
end Nd
namespace Nd
/-! sums over a list of spots -/
theorem isum_list {lo : Int} {n : Nat} {f : Int → Int} : ∀ {ss : List Int}, ss.Nodup → (∀ y ∈ ss, lo ≤ y ∧ y < lo + n) → (∀ y, y ∉ ss → f y = 0) → isum lo n f = lsum f ss := by
  intro ss hn hb hz
  have e : isum lo n f = isum lo n (fun y => lsum (fun s => if y = s then 1 * f s else 0) ss) := by
    refine isum_congr fun y _ _ => ?_
    by_cases h : y ∈ ss
    · clear hb hz
      induction ss with
      | nil => cases h
      | cons a ss ih =>
        obtain ⟨h1, h2⟩ := List.nodup_cons.mp hn
        show _ = (if y = a then 1 * f a else 0) + lsum (fun s => if y = s then 1 * f s else 0) ss
        by_cases ea : y = a
        · rw [if_pos ea, lsum_zero (fun s hs => if_neg (fun h => h1 (by rw [← ea, h]; exact hs))), ea]
          omega
        · rw [if_neg ea, ← ih h2 (by rcases List.mem_cons.mp h with h | h; exact absurd h ea; exact h)]
          omega
    · rw [hz y h, lsum_zero (fun s hs => if_neg (fun e => h (by rw [e]; exact hs)))]
  rw [e, isum_lsum]
  refine lsum_congr fun s hs => ?_
  obtain ⟨b1, b2⟩ := hb s hs
  have := isum_one (lo := lo) (n := n) (z := s) (c := 1) b1 b2 f
  have g : isum lo n (fun y => if y = s then 1 * f s else 0) = isum lo n (fun y => if y = s then 1 * f y else 0) := by
    refine isum_congr fun y _ _ => ?_
    by_cases h : y = s
    · rw [if_pos h, if_pos h, h]
    · rw [if_neg h, if_neg h]
  rw [g, this, Int.one_mul]
theorem reach_list {rows : List Row} {last : Nat} {col : Int} {ss : List Int} (hn : ss.Nodup) (hb : ∀ y ∈ ss, -100 ≤ y ∧ y ≤ 100) (hz : ∀ y, y ∉ ss → ∀ t, chg rows last y t = 0) : lsum (bestAt rows last col) ss = Reach rows last col := by
  unfold Reach
  refine (isum_list hn (fun y hy => ?_) fun y hy => best_zero fun j _ => hz y hy _).symm
  obtain ⟨a, b⟩ := hb y hy
  rw [wl_eq, wn_eq]
  omega
theorem dp_zero {c : Nat → Int} : ∀ {m : Nat}, (∀ j, j < m → c j = 0) → dp c m = ((0, []), (0, []))
  | 0, _ => rfl
  | m + 1, h => by
    simp only [dp]
    rw [dp_zero (m := m) (fun j hj => h j (by omega)), h m (by omega)]
    rfl
theorem top_zero {c : Nat → Int} {m : Nat} (h : ∀ j, j < m → c j = 0) : (dpTop c m).2 = [] ∧ dpLeft c m = false := by
  have e := dp_zero h
  have t : (dpTop c m).2 = [] := by
    unfold dpTop
    rw [e]
    rfl
  refine ⟨t, ?_⟩
  unfold dpLeft
  simp only [t]
  rfl
theorem wish_out {rows : List Row} {last : Nat} {col y : Int} (h : ∀ t, chg rows last y t = 0) (t : Nat) : Wish rows last col y t = false := by
  unfold Wish
  rw [(top_zero (fun j _ => h _)).1]
  simp
theorem left_out {rows : List Row} {last : Nat} {col y : Int} (h : ∀ t, chg rows last y t = 0) : LeftAt rows last col y = false := (top_zero (fun j _ => h _)).2
end Nd
namespace Nd
/-- a worst start of a look, its heaps in any order -/
structure WorstM (B : Nat) (rows : List Row) (last : Nat) (col : Int) (F : Tab) (Ls : List Int) : Prop where
  up : (F.map (·.1)).Nodup
  fb : ∀ p ∈ F, 1 ≤ p.2 ∧ p.2 < 2 ^ (last + 1) ∧ p.1 % 2 = col ∧ -((B : Int) + last) ≤ p.1 ∧ p.1 ≤ B + last
  gap : gap2 rows last (gets F) (isIn Ls) = Reach rows last col
theorem worst_madeM {B : Nat} {rows : List Row} {last : Nat} {col low high : Int} {found here F : Tab} {hands Ls : List Int} {s : Int} (nr : Near B rows last) (hB : B + last + 5 < 200) (h01 : col = 0 ∨ col = 1)
    (hr : ∀ r ∈ rows, low ≤ r.1 ∧ r.1 ≤ high ∧ r.2.1 ≤ last) (hlow : -(B : Int) ≤ low) (hhigh : high ≤ B)
    (I : TickInv (Wish rows last col) (isIn Ls) col low high last last s found here hands) (hs : s ≤ low) (hF : F.Perm found) 
    (hl : ∀ y, y ∈ Ls ↔ LeftAt rows last col y = true) : WorstM B rows last col F Ls := by
  have hup : (F.map (·.1)).Nodup := ((hF.map (·.1)).nodup_iff).mpr I.fn
  exact {
  up := hup
  fb := fun p hp => by
    obtain ⟨a, b, c, d, e⟩ := I.fb p (hF.subset hp)
    have w := two_pow_pos last
    rw [Int.pow_succ] at b ⊢
    refine ⟨a, ?_, c, by omega, by omega⟩
    split at b <;> omega
  gap := by
    have eg : gets F = gets found := funext fun k => gets_perm hup hF k
    rw [eg]
    refine gap_best nr hB h01 (col_gets fun p hp => (I.fb p hp).2.2.1) hr fun y => .inr ⟨.inr (isIn_eq (hl y)), fun t ht hc hi => ?_⟩
    refine (I.old t ht y hi hc).trans ?_
    unfold Wish
    exact decide_eq_true_iff }
end Nd
namespace Nd
theorem laid_at : ∀ (r : List Int) (here : Tab) (y : Int) (j i : Nat) (m : Int), r[i]? = some m → laid here y (r.take (i + 1)) j = putI (laid here y (r.take i) j) (y + 2 * ((j + i : Nat) : Int)) (gets (laid here y (r.take i) j) (y + 2 * ((j + i : Nat) : Int)) + m)
  | [], _, _, _, _, _, h => by simp at h
  | a :: r, here, y, j, 0, m, h => by
    cases Option.some.inj h
    rfl
  | a :: r, here, y, j, i + 1, m, h => by
    rw [List.take_succ_cons, List.take_succ_cons]
    have e := laid_at r (putI here (y + 2 * j) (gets here (y + 2 * j) + a)) y (j + 1) i m (by simpa using h)
    rw [show j + 1 + i = j + (i + 1) from by omega] at e
    exact e
theorem laid_len : ∀ (r : List Int) (here : Tab) (y : Int) (j : Nat), (laid here y r j).length ≤ here.length + r.length
  | [], here, _, _ => Nat.le_refl _
  | m :: r, here, y, j => by
    have a := laid_len r (putI here (y + 2 * j) (gets here (y + 2 * j) + m)) y (j + 1)
    have b := length_put (L := here) (k := y + 2 * j) (v := gets here (y + 2 * j) + m)
    rw [List.length_cons]
    show (laid (putI here (y + 2 * j) (gets here (y + 2 * j) + m)) y r (j + 1)).length ≤ _
    omega
theorem shares_len {T : Nat} : (shares T).length = T + 1 := by unfold shares; simp
end Nd
namespace Nd
/-! how great a reach can be -/
theorem runS_abs {b : Bool} {o : Nat → Bool} {c : Nat → Int} {B : Int} (h0 : 0 ≤ B) : ∀ m : Nat, (∀ j, j < m → -B ≤ c j ∧ c j ≤ B) → (runS b o c m).1 ≤ (m : Int) * B ∧ -((m : Int) * B) ≤ (runS b o c m).1
  | 0, _ => by simp [runS]
  | m + 1, h => by
    have ih := runS_abs (b := b) (o := o) h0 m fun j hj => h j (by omega)
    have hm := h m (by omega)
    have e : ((m + 1 : Nat) : Int) * B = (m : Int) * B + B := by rw [Int.natCast_add, Int.add_mul]; simp
    rw [e]
    by_cases ho : o m = true
    · rw [runS_odd ho]
      dsimp only
      split <;> omega
    · rw [runS_even (by simpa using ho)]
      omega
theorem best_abs {c : Nat → Int} {m : Nat} {B : Int} (h0 : 0 ≤ B) (h : ∀ j, j < m → -B ≤ c j ∧ c j ≤ B) : best c m ≤ (m : Int) * B := by
  rw [← dpTop_run]
  exact (runS_abs h0 m h).1
theorem lsum_abs {α : Type} {f : α → Int} {B : Int} : ∀ {l : List α}, (∀ a ∈ l, -B ≤ f a ∧ f a ≤ B) → lsum f l ≤ (l.length : Int) * B ∧ -((l.length : Int) * B) ≤ lsum f l
  | [], _ => by simp [lsum]
  | a :: l, h => by
    have ih := lsum_abs (f := f) (l := l) fun b hb => h b (by simp [hb])
    have ha := h a (by simp)
    have e : (((a :: l).length : Nat) : Int) * B = (l.length : Int) * B + B := by rw [List.length_cons, Int.natCast_add, Int.add_mul]; simp
    rw [e]
    simp only [lsum]
    omega
theorem isum_const {lo B : Int} {n : Nat} {f : Int → Int} (h : ∀ y, f y ≤ B) : isum lo n f ≤ (n : Int) * B := by
  induction n with
  | zero => simp [isum]
  | succ n ih =>
    simp only [isum]
    have := h (lo + n)
    have e : ((n + 1 : Nat) : Int) * B = (n : Int) * B + B := by rw [Int.natCast_add, Int.add_mul]; simp
    omega
theorem mul_abs {x y a b : Int} (hx : -a ≤ x ∧ x ≤ a) (hy : -b ≤ y ∧ y ≤ b) : -(a * b) ≤ x * y ∧ x * y ≤ a * b := by
  have ha : x.natAbs ≤ a.natAbs := by omega
  have hb : y.natAbs ≤ b.natAbs := by omega
  have h : (x * y).natAbs ≤ (a * b).natAbs := by
    rw [Int.natAbs_mul, Int.natAbs_mul]
    exact Nat.mul_le_mul ha hb
  have h0 : 0 ≤ a * b := Int.mul_nonneg (by omega) (by omega)
  omega
theorem chg_abs {rows : List Row} {last : Nat} {y W : Int} {t : Nat} (h0 : 0 ≤ W) (hr : ∀ r ∈ rows, r.2.1 ≤ last ∧ -W ≤ r.2.2 ∧ r.2.2 ≤ W) : -((rows.length : Int) * (W * 2 ^ last)) ≤ chg rows last y t ∧ chg rows last y t ≤ (rows.length : Int) * (W * 2 ^ last) := by
  unfold chg
  have p0 : (0 : Int) ≤ W * 2 ^ last := Int.mul_nonneg h0 (Int.le_of_lt (two_pow_pos last))
  have := lsum_abs (f := fun r : Row => if t < r.2.1 then r.2.2 * R (r.2.1 - t) (r.1 - y) * 2 ^ (last - (r.2.1 - t)) else 0) (B := W * 2 ^ last) (l := rows) fun r hm => by
    obtain ⟨h1, h2, h3⟩ := hr r hm
    split
    · have e : (2 : Int) ^ last = 2 ^ (r.2.1 - t) * 2 ^ (last - (r.2.1 - t)) := by rw [← pow_split]; congr 1; omega
      have a := R_le (k := r.2.1 - t) (d := r.1 - y)
      have b := mul_abs ⟨h2, h3⟩ a
      have p := two_pow_pos (last - (r.2.1 - t))
      rw [e, ← Int.mul_assoc]
      have c := mul_abs b (y := 2 ^ (last - (r.2.1 - t))) (b := 2 ^ (last - (r.2.1 - t))) (by omega)
      exact c
    · omega
  exact ⟨this.2, this.1⟩
theorem reach_abs {rows : List Row} {last : Nat} {col : Int} (hr : ∀ r ∈ rows, r.2.1 ≤ last ∧ -1000 ≤ r.2.2 ∧ r.2.2 ≤ 1000) (hl : rows.length ≤ 40) (h6 : last ≤ 6) : (Reach rows last col).natAbs < 2 ^ 60 := by
  have p : (2 : Int) ^ last ≤ 64 := by
    have : (2 : Nat) ^ last ≤ 2 ^ 6 := Nat.pow_le_pow_right (by decide) h6
    have e : ((2 ^ last : Nat) : Int) = (2 : Int) ^ last := by rw [Int.natCast_pow]; rfl
    omega
  have p1 := two_pow_pos last
  have hb : ∀ y, bestAt rows last col y ≤ 7 * 2560000 := fun y => by
    have q : ((cnt (par y col) last : Nat) : Int) ≤ 7 := by unfold cnt; omega
    have b := best_abs (c := chgs rows last col y) (m := cnt (par y col) last) (B := 2560000) (by decide) fun j _ => by
      have c := chg_abs (rows := rows) (last := last) (y := y) (W := 1000) (t := par y col + 2 * j) (by decide) hr
      have d : (rows.length : Int) * (1000 * 2 ^ last) ≤ 40 * (1000 * 2 ^ last) := Int.mul_le_mul_of_nonneg_right (by omega) (by omega)
      unfold chgs
      omega
    unfold bestAt
    have : ((cnt (par y col) last : Nat) : Int) * 2560000 ≤ 7 * 2560000 := Int.mul_le_mul_of_nonneg_right q (by decide)
    omega
  have h0 : 0 ≤ Reach rows last col := by
    unfold Reach
    have : isum WL WN (fun _ => (0 : Int)) ≤ isum WL WN (bestAt rows last col) := isum_le fun y _ _ => best_nonneg _ _
    rw [isum_zero (fun _ _ _ => rfl)] at this
    exact this
  have h1 : Reach rows last col ≤ (WN : Int) * (7 * 2560000) := isum_const hb
  rw [wn_eq] at h1
  omega
/-! the gap by worth and mean -/
theorem gap_parts {rows : List Row} {last : Nat} {F : Tab} {Ls : List Int} (hn : (F.map (·.1)).Nodup) (hF : ∀ p ∈ F, -200 ≤ p.1 ∧ p.1 ≤ 200) :
    lsum (fun r : Row => r.2.2 * evH (gets F) (isIn Ls) r.2.1 r.1) rows * 2 ^ last - lsum (fun r : Row => r.2.2 * (lsum (fun p : Int × Int => p.2 * P r.2.1 (r.1 - p.1)) F * 2 ^ (last - r.2.1))) rows = gap2 rows last (gets F) (isIn Ls) := by
  unfold gap2
  induction rows with
  | nil => simp [lsum]
  | cons r rows ih =>
    simp only [lsum] at ih ⊢
    rw [mean_list hn (fun p hp => by have := hF p hp; rw [wl_eq, wn_eq]; omega)]
    rw [← ih]
    grind
/-! the gap tick by tick -/
abbrev gterm (last : Nat) (h : HF) (l : LF) (r : Row) : Int := r.2.2 * (2 ^ last * evH h l r.2.1 r.1 - 2 ^ (last - r.2.1) * meanS h r.1 r.2.1)
def gapTo (rows : List Row) (last : Nat) (h : HF) (l : LF) (t : Nat) : Int := lsum (gterm last h l) (rows.filter fun r => decide (r.2.1 < t))
theorem gapTo_zero {rows : List Row} {last : Nat} {h : HF} {l : LF} : gapTo rows last h l 0 = 0 := by
  unfold gapTo
  rw [List.filter_eq_nil_iff.mpr (by simp)]
  rfl
theorem gapTo_succ {rows : List Row} {last : Nat} {h : HF} {l : LF} {t : Nat} : gapTo rows last h l (t + 1) = gapTo rows last h l t + lsum (gterm last h l) (rows.filter fun r => decide (r.2.1 = t)) := by
  unfold gapTo
  induction rows with
  | nil => rfl
  | cons r rows ih =>
    by_cases h1 : r.2.1 < t
    · rw [List.filter_cons_of_pos (by simp; omega), List.filter_cons_of_pos (by simp; omega), List.filter_cons_of_neg (by simp; omega)]
      simp only [lsum]
      omega
    · by_cases h2 : r.2.1 = t
      · rw [List.filter_cons_of_pos (by simp; omega), List.filter_cons_of_neg (by simp; omega), List.filter_cons_of_pos (by simp; omega)]
        simp only [lsum]
        omega
      · rw [List.filter_cons_of_neg (by simp; omega), List.filter_cons_of_neg (by simp; omega), List.filter_cons_of_neg (by simp; omega)]
        exact ih
theorem gapTo_all {rows : List Row} {last : Nat} {h : HF} {l : LF} (hr : ∀ r ∈ rows, r.2.1 ≤ last) : gapTo rows last h l (last + 1) = gap2 rows last h l := by
  unfold gapTo gap2
  rw [List.filter_eq_self.mpr fun r hm => decide_eq_true (by have := hr r hm; omega)]
/-! the rows of paths, as they are listed -/
theorem shares_at {T j : Nat} (h : j ≤ T) : (shares T)[j]? = some (P T (2 * (j : Int) - T)) := by
  unfold shares
  rw [List.getElem?_map, List.getElem?_range (by omega)]
  rfl
theorem shares_row {T : Nat} {ys : List Int} (hl : ys.length = T) (h : ∀ j, j < T → ∃ a b, (shares T)[j]? = some a ∧ (shares T)[j + 1]? = some b ∧ ys[j]? = some (a + b)) : [1] ++ ys ++ [1] = shares (T + 1) := by
  refine List.ext_getElem? fun i => ?_
  by_cases h0 : i = 0
  · subst h0
    rw [shares_at (by omega)]
    show some (1 : Int) = _
    congr 1
    have := P_edge (T + 1)
    rw [← this]
    congr 1
  · obtain ⟨j, rfl⟩ : ∃ j, i = j + 1 := ⟨i - 1, by omega⟩
    show (ys ++ [1])[j]? = _
    by_cases h1 : j < T
    · obtain ⟨a, b, e1, e2, e3⟩ := h j h1
      rw [List.getElem?_append_left (by omega), e3, shares_at (by omega)]
      rw [shares_at (by omega)] at e1 e2
      cases Option.some.inj e1
      cases Option.some.inj e2
      congr 1
      simp only [P]
      congr 1 <;> congr 1 <;> omega
    · by_cases h2 : j = T
      · subst h2
        rw [List.getElem?_append_right (by omega), hl, Nat.sub_self, shares_at (by omega)]
        show some (1 : Int) = _
        congr 1
        have := P_edge (j + 1)
        rw [← this, ← P_sym]
        congr 1
        omega
      · rw [List.getElem?_eq_none (by rw [List.length_append, hl]; simp; omega), List.getElem?_eq_none (by rw [shares_len]; omega)]
end Nd
namespace Nw
open PySem PySem.Spec PyProof.Rows L2
/-- what the head tells -/
structure Tx (K : PySem.W.Frag) (mg : Str → Option Value) : Prop where
  x : ∃ h : Heap, K.In h ∧ h.Ns mainGlobals mg
  c : He.SaysD fa fn K
  e : exB K = true
section
variable {K : PySem.W.Frag} {mg : Str → Option Value}
theorem Tx.g_is_integer (T : Tx K mg) : mg "is_integer" = some (.ref (He.ga K "is_integer")) := by obtain ⟨h, X, G⟩ := T.x; exact He.glo_ok X G (T.c.fact 0 (f := .glo "is_integer") rfl)
theorem Tx.g_is_within (T : Tx K mg) : mg "is_within" = some (.ref (He.ga K "is_within")) := by obtain ⟨h, X, G⟩ := T.x; exact He.glo_ok X G (T.c.fact 1 (f := .glo "is_within") rfl)
theorem Tx.g_are_integers (T : Tx K mg) : mg "are_integers" = some (.ref (He.ga K "are_integers")) := by obtain ⟨h, X, G⟩ := T.x; exact He.glo_ok X G (T.c.fact 2 (f := .glo "are_integers") rfl)
theorem Tx.g_need_number (T : Tx K mg) : mg "need_number" = some (.ref (He.ga K "need_number")) := by obtain ⟨h, X, G⟩ := T.x; exact He.glo_ok X G (T.c.fact 3 (f := .glo "need_number") rfl)
theorem Tx.g_is_heap (T : Tx K mg) : mg "is_heap" = some (.ref (He.ga K "is_heap")) := by obtain ⟨h, X, G⟩ := T.x; exact He.glo_ok X G (T.c.fact 4 (f := .glo "is_heap") rfl)
theorem Tx.g_are_heaps (T : Tx K mg) : mg "are_heaps" = some (.ref (He.ga K "are_heaps")) := by obtain ⟨h, X, G⟩ := T.x; exact He.glo_ok X G (T.c.fact 5 (f := .glo "are_heaps") rfl)
theorem Tx.g_kept_heaps (T : Tx K mg) : mg "kept_heaps" = some (.ref (He.ga K "kept_heaps")) := by obtain ⟨h, X, G⟩ := T.x; exact He.glo_ok X G (T.c.fact 6 (f := .glo "kept_heaps") rfl)
theorem Tx.g_colour_in (T : Tx K mg) : mg "colour_in" = some (.ref (He.ga K "colour_in")) := by obtain ⟨h, X, G⟩ := T.x; exact He.glo_ok X G (T.c.fact 7 (f := .glo "colour_in") rfl)
theorem Tx.g_spots_of (T : Tx K mg) : mg "spots_of" = some (.ref (He.ga K "spots_of")) := by obtain ⟨h, X, G⟩ := T.x; exact He.glo_ok X G (T.c.fact 8 (f := .glo "spots_of") rfl)
theorem Tx.g_need_heaps (T : Tx K mg) : mg "need_heaps" = some (.ref (He.ga K "need_heaps")) := by obtain ⟨h, X, G⟩ := T.x; exact He.glo_ok X G (T.c.fact 9 (f := .glo "need_heaps") rfl)
theorem Tx.g_need_colour (T : Tx K mg) : mg "need_colour" = some (.ref (He.ga K "need_colour")) := by obtain ⟨h, X, G⟩ := T.x; exact He.glo_ok X G (T.c.fact 10 (f := .glo "need_colour") rfl)
theorem Tx.g_need_lefts (T : Tx K mg) : mg "need_lefts" = some (.ref (He.ga K "need_lefts")) := by obtain ⟨h, X, G⟩ := T.x; exact He.glo_ok X G (T.c.fact 11 (f := .glo "need_lefts") rfl)
theorem Tx.g_need_start (T : Tx K mg) : mg "need_start" = some (.ref (He.ga K "need_start")) := by obtain ⟨h, X, G⟩ := T.x; exact He.glo_ok X G (T.c.fact 12 (f := .glo "need_start") rfl)
theorem Tx.g_Line (T : Tx K mg) : mg "Line" = some (.ref (He.ga K "Line")) := by obtain ⟨h, X, G⟩ := T.x; exact He.glo_ok X G (T.c.fact 13 (f := .glo "Line") rfl)
theorem Tx.g_line_at (T : Tx K mg) : mg "line_at" = some (.ref (He.ga K "line_at")) := by obtain ⟨h, X, G⟩ := T.x; exact He.glo_ok X G (T.c.fact 14 (f := .glo "line_at") rfl)
theorem Tx.g_sent_on (T : Tx K mg) : mg "sent_on" = some (.ref (He.ga K "sent_on")) := by obtain ⟨h, X, G⟩ := T.x; exact He.glo_ok X G (T.c.fact 15 (f := .glo "sent_on") rfl)
theorem Tx.g_is_weight (T : Tx K mg) : mg "is_weight" = some (.ref (He.ga K "is_weight")) := by obtain ⟨h, X, G⟩ := T.x; exact He.glo_ok X G (T.c.fact 16 (f := .glo "is_weight") rfl)
theorem Tx.g_is_row (T : Tx K mg) : mg "is_row" = some (.ref (He.ga K "is_row")) := by obtain ⟨h, X, G⟩ := T.x; exact He.glo_ok X G (T.c.fact 17 (f := .glo "is_row") rfl)
theorem Tx.g_are_rows (T : Tx K mg) : mg "are_rows" = some (.ref (He.ga K "are_rows")) := by obtain ⟨h, X, G⟩ := T.x; exact He.glo_ok X G (T.c.fact 18 (f := .glo "are_rows") rfl)
theorem Tx.g_place_of (T : Tx K mg) : mg "place_of" = some (.ref (He.ga K "place_of")) := by obtain ⟨h, X, G⟩ := T.x; exact He.glo_ok X G (T.c.fact 19 (f := .glo "place_of") rfl)
theorem Tx.g_colour_at (T : Tx K mg) : mg "colour_at" = some (.ref (He.ga K "colour_at")) := by obtain ⟨h, X, G⟩ := T.x; exact He.glo_ok X G (T.c.fact 20 (f := .glo "colour_at") rfl)
theorem Tx.g_Look (T : Tx K mg) : mg "Look" = some (.ref (He.ga K "Look")) := by obtain ⟨h, X, G⟩ := T.x; exact He.glo_ok X G (T.c.fact 21 (f := .glo "Look") rfl)
theorem Tx.g_need_look (T : Tx K mg) : mg "need_look" = some (.ref (He.ga K "need_look")) := by obtain ⟨h, X, G⟩ := T.x; exact He.glo_ok X G (T.c.fact 22 (f := .glo "need_look") rfl)
theorem Tx.g_weighed (T : Tx K mg) : mg "weighed" = some (.ref (He.ga K "weighed")) := by obtain ⟨h, X, G⟩ := T.x; exact He.glo_ok X G (T.c.fact 23 (f := .glo "weighed") rfl)
theorem Tx.g_joined_looks (T : Tx K mg) : mg "joined_looks" = some (.ref (He.ga K "joined_looks")) := by obtain ⟨h, X, G⟩ := T.x; exact He.glo_ok X G (T.c.fact 24 (f := .glo "joined_looks") rfl)
theorem Tx.g_scaled_look (T : Tx K mg) : mg "scaled_look" = some (.ref (He.ga K "scaled_look")) := by obtain ⟨h, X, G⟩ := T.x; exact He.glo_ok X G (T.c.fact 25 (f := .glo "scaled_look") rfl)
theorem Tx.g_moved_look (T : Tx K mg) : mg "moved_look" = some (.ref (He.ga K "moved_look")) := by obtain ⟨h, X, G⟩ := T.x; exact He.glo_ok X G (T.c.fact 26 (f := .glo "moved_look") rfl)
theorem Tx.g_least_pair (T : Tx K mg) : mg "least_pair" = some (.ref (He.ga K "least_pair")) := by obtain ⟨h, X, G⟩ := T.x; exact He.glo_ok X G (T.c.fact 27 (f := .glo "least_pair") rfl)
theorem Tx.g_both (T : Tx K mg) : mg "both" = some (.ref (He.ga K "both")) := by obtain ⟨h, X, G⟩ := T.x; exact He.glo_ok X G (T.c.fact 28 (f := .glo "both") rfl)
theorem Tx.g_times (T : Tx K mg) : mg "times" = some (.ref (He.ga K "times")) := by obtain ⟨h, X, G⟩ := T.x; exact He.glo_ok X G (T.c.fact 29 (f := .glo "times") rfl)
theorem Tx.g_turned (T : Tx K mg) : mg "turned" = some (.ref (He.ga K "turned")) := by obtain ⟨h, X, G⟩ := T.x; exact He.glo_ok X G (T.c.fact 30 (f := .glo "turned") rfl)
theorem Tx.g_is_less (T : Tx K mg) : mg "is_less" = some (.ref (He.ga K "is_less")) := by obtain ⟨h, X, G⟩ := T.x; exact He.glo_ok X G (T.c.fact 31 (f := .glo "is_less") rfl)
theorem Tx.g_total_of (T : Tx K mg) : mg "total_of" = some (.ref (He.ga K "total_of")) := by obtain ⟨h, X, G⟩ := T.x; exact He.glo_ok X G (T.c.fact 32 (f := .glo "total_of") rfl)
theorem Tx.g_fixed (T : Tx K mg) : mg "fixed" = some (.ref (He.ga K "fixed")) := by obtain ⟨h, X, G⟩ := T.x; exact He.glo_ok X G (T.c.fact 33 (f := .glo "fixed") rfl)
theorem Tx.g_Paper (T : Tx K mg) : mg "Paper" = some (.ref (He.ga K "Paper")) := by obtain ⟨h, X, G⟩ := T.x; exact He.glo_ok X G (T.c.fact 34 (f := .glo "Paper") rfl)
theorem Tx.g_first_counts (T : Tx K mg) : mg "first_counts" = some (.ref (He.ga K "first_counts")) := by obtain ⟨h, X, G⟩ := T.x; exact He.glo_ok X G (T.c.fact 35 (f := .glo "first_counts") rfl)
theorem Tx.g_row_changes (T : Tx K mg) : mg "row_changes" = some (.ref (He.ga K "row_changes")) := by obtain ⟨h, X, G⟩ := T.x; exact He.glo_ok X G (T.c.fact 36 (f := .glo "row_changes") rfl)
theorem Tx.g_all_changes (T : Tx K mg) : mg "all_changes" = some (.ref (He.ga K "all_changes")) := by obtain ⟨h, X, G⟩ := T.x; exact He.glo_ok X G (T.c.fact 37 (f := .glo "all_changes") rfl)
theorem Tx.g_change_in (T : Tx K mg) : mg "change_in" = some (.ref (He.ga K "change_in")) := by obtain ⟨h, X, G⟩ := T.x; exact He.glo_ok X G (T.c.fact 38 (f := .glo "change_in") rfl)
theorem Tx.g_more_of (T : Tx K mg) : mg "more_of" = some (.ref (He.ga K "more_of")) := by obtain ⟨h, X, G⟩ := T.x; exact He.glo_ok X G (T.c.fact 39 (f := .glo "more_of") rfl)
theorem Tx.g_with_pick (T : Tx K mg) : mg "with_pick" = some (.ref (He.ga K "with_pick")) := by obtain ⟨h, X, G⟩ := T.x; exact He.glo_ok X G (T.c.fact 40 (f := .glo "with_pick") rfl)
theorem Tx.g_best_turns (T : Tx K mg) : mg "best_turns" = some (.ref (He.ga K "best_turns")) := by obtain ⟨h, X, G⟩ := T.x; exact He.glo_ok X G (T.c.fact 41 (f := .glo "best_turns") rfl)
theorem Tx.g_spots_changes (T : Tx K mg) : mg "spots_changes" = some (.ref (He.ga K "spots_changes")) := by obtain ⟨h, X, G⟩ := T.x; exact He.glo_ok X G (T.c.fact 42 (f := .glo "spots_changes") rfl)
theorem Tx.g_reach_in (T : Tx K mg) : mg "reach_in" = some (.ref (He.ga K "reach_in")) := by obtain ⟨h, X, G⟩ := T.x; exact He.glo_ok X G (T.c.fact 43 (f := .glo "reach_in") rfl)
theorem Tx.g_reach_of (T : Tx K mg) : mg "reach_of" = some (.ref (He.ga K "reach_of")) := by obtain ⟨h, X, G⟩ := T.x; exact He.glo_ok X G (T.c.fact 44 (f := .glo "reach_of") rfl)
theorem Tx.g_Worst (T : Tx K mg) : mg "Worst" = some (.ref (He.ga K "Worst")) := by obtain ⟨h, X, G⟩ := T.x; exact He.glo_ok X G (T.c.fact 45 (f := .glo "Worst") rfl)
theorem Tx.g_added_wish (T : Tx K mg) : mg "added_wish" = some (.ref (He.ga K "added_wish")) := by obtain ⟨h, X, G⟩ := T.x; exact He.glo_ok X G (T.c.fact 46 (f := .glo "added_wish") rfl)
theorem Tx.g_free_wish (T : Tx K mg) : mg "free_wish" = some (.ref (He.ga K "free_wish")) := by obtain ⟨h, X, G⟩ := T.x; exact He.glo_ok X G (T.c.fact 47 (f := .glo "free_wish") rfl)
theorem Tx.g_ends_of (T : Tx K mg) : mg "ends_of" = some (.ref (He.ga K "ends_of")) := by obtain ⟨h, X, G⟩ := T.x; exact He.glo_ok X G (T.c.fact 48 (f := .glo "ends_of") rfl)
theorem Tx.g_later_row (T : Tx K mg) : mg "later_row" = some (.ref (He.ga K "later_row")) := by obtain ⟨h, X, G⟩ := T.x; exact He.glo_ok X G (T.c.fact 49 (f := .glo "later_row") rfl)
theorem Tx.g_heaps_for (T : Tx K mg) : mg "heaps_for" = some (.ref (He.ga K "heaps_for")) := by obtain ⟨h, X, G⟩ := T.x; exact He.glo_ok X G (T.c.fact 50 (f := .glo "heaps_for") rfl)
theorem Tx.g_need_near (T : Tx K mg) : mg "need_near" = some (.ref (He.ga K "need_near")) := by obtain ⟨h, X, G⟩ := T.x; exact He.glo_ok X G (T.c.fact 51 (f := .glo "need_near") rfl)
theorem Tx.g_worst_start (T : Tx K mg) : mg "worst_start" = some (.ref (He.ga K "worst_start")) := by obtain ⟨h, X, G⟩ := T.x; exact He.glo_ok X G (T.c.fact 52 (f := .glo "worst_start") rfl)
theorem Tx.g_choices (T : Tx K mg) : mg "choices" = some (.ref (He.ga K "choices")) := by obtain ⟨h, X, G⟩ := T.x; exact He.glo_ok X G (T.c.fact 53 (f := .glo "choices") rfl)
theorem Tx.g_rows_to (T : Tx K mg) : mg "rows_to" = some (.ref (He.ga K "rows_to")) := by obtain ⟨h, X, G⟩ := T.x; exact He.glo_ok X G (T.c.fact 54 (f := .glo "rows_to") rfl)
theorem Tx.g_mean_in (T : Tx K mg) : mg "mean_in" = some (.ref (He.ga K "mean_in")) := by obtain ⟨h, X, G⟩ := T.x; exact He.glo_ok X G (T.c.fact 55 (f := .glo "mean_in") rfl)
theorem Tx.g_worth_in (T : Tx K mg) : mg "worth_in" = some (.ref (He.ga K "worth_in")) := by obtain ⟨h, X, G⟩ := T.x; exact He.glo_ok X G (T.c.fact 56 (f := .glo "worth_in") rfl)
theorem Tx.g_mean_of_look (T : Tx K mg) : mg "mean_of_look" = some (.ref (He.ga K "mean_of_look")) := by obtain ⟨h, X, G⟩ := T.x; exact He.glo_ok X G (T.c.fact 57 (f := .glo "mean_of_look") rfl)
theorem Tx.g_is_start (T : Tx K mg) : mg "is_start" = some (.ref (He.ga K "is_start")) := by obtain ⟨h, X, G⟩ := T.x; exact He.glo_ok X G (T.c.fact 58 (f := .glo "is_start") rfl)
theorem Tx.g_shows_worst (T : Tx K mg) : mg "shows_worst" = some (.ref (He.ga K "shows_worst")) := by obtain ⟨h, X, G⟩ := T.x; exact He.glo_ok X G (T.c.fact 59 (f := .glo "shows_worst") rfl)
theorem Tx.g__law_breeze (T : Tx K mg) : mg "_law_breeze" = some (.ref (He.ga K "_law_breeze")) := by obtain ⟨h, X, G⟩ := T.x; exact He.glo_ok X G (T.c.fact 60 (f := .glo "_law_breeze") rfl)
theorem Tx.g__law_puff (T : Tx K mg) : mg "_law_puff" = some (.ref (He.ga K "_law_puff")) := by obtain ⟨h, X, G⟩ := T.x; exact He.glo_ok X G (T.c.fact 61 (f := .glo "_law_puff") rfl)
theorem Tx.g__law_one (T : Tx K mg) : mg "_law_one" = some (.ref (He.ga K "_law_one")) := by obtain ⟨h, X, G⟩ := T.x; exact He.glo_ok X G (T.c.fact 62 (f := .glo "_law_one") rfl)
theorem Tx.g__law_rows (T : Tx K mg) : mg "_law_rows" = some (.ref (He.ga K "_law_rows")) := by obtain ⟨h, X, G⟩ := T.x; exact He.glo_ok X G (T.c.fact 63 (f := .glo "_law_rows") rfl)
theorem Tx.g__law_paths (T : Tx K mg) : mg "_law_paths" = some (.ref (He.ga K "_law_paths")) := by obtain ⟨h, X, G⟩ := T.x; exact He.glo_ok X G (T.c.fact 64 (f := .glo "_law_paths") rfl)
theorem Tx.g__law_share (T : Tx K mg) : mg "_law_share" = some (.ref (He.ga K "_law_share")) := by obtain ⟨h, X, G⟩ := T.x; exact He.glo_ok X G (T.c.fact 65 (f := .glo "_law_share") rfl)
theorem Tx.g__law_sent (T : Tx K mg) : mg "_law_sent" = some (.ref (He.ga K "_law_sent")) := by obtain ⟨h, X, G⟩ := T.x; exact He.glo_ok X G (T.c.fact 66 (f := .glo "_law_sent") rfl)
theorem Tx.g__law_gap (T : Tx K mg) : mg "_law_gap" = some (.ref (He.ga K "_law_gap")) := by obtain ⟨h, X, G⟩ := T.x; exact He.glo_ok X G (T.c.fact 67 (f := .glo "_law_gap") rfl)
theorem Tx.g__law_is (T : Tx K mg) : mg "_law_is" = some (.ref (He.ga K "_law_is")) := by obtain ⟨h, X, G⟩ := T.x; exact He.glo_ok X G (T.c.fact 68 (f := .glo "_law_is") rfl)
theorem Tx.g_law (T : Tx K mg) : mg "law" = some (.ref (He.ga K "law")) := by obtain ⟨h, X, G⟩ := T.x; exact He.glo_ok X G (T.c.fact 69 (f := .glo "law") rfl)
theorem Tx.g_BadNumber (T : Tx K mg) : mg "BadNumber" = some (.ref (He.ga K "BadNumber")) := by obtain ⟨h, X, G⟩ := T.x; exact He.glo_ok X G (T.c.fact 70 (f := .glo "BadNumber") rfl)
theorem Tx.g_NOUGHT (T : Tx K mg) : mg "NOUGHT" = some (.ref (He.ga K "NOUGHT")) := by obtain ⟨h, X, G⟩ := T.x; exact He.glo_ok X G (T.c.fact 71 (f := .glo "NOUGHT") rfl)
theorem Tx.z_isinstance (T : Tx K mg) : mg "isinstance" = none := by obtain ⟨h, X, G⟩ := T.x; exact He.free_ok X G (T.c.fact 72 (f := .free "isinstance") rfl)
theorem Tx.z_int (T : Tx K mg) : mg "int" = none := by obtain ⟨h, X, G⟩ := T.x; exact He.free_ok X G (T.c.fact 73 (f := .free "int") rfl)
theorem Tx.z_bool (T : Tx K mg) : mg "bool" = none := by obtain ⟨h, X, G⟩ := T.x; exact He.free_ok X G (T.c.fact 74 (f := .free "bool") rfl)
theorem Tx.z_list (T : Tx K mg) : mg "list" = none := by obtain ⟨h, X, G⟩ := T.x; exact He.free_ok X G (T.c.fact 75 (f := .free "list") rfl)
theorem Tx.z_tuple (T : Tx K mg) : mg "tuple" = none := by obtain ⟨h, X, G⟩ := T.x; exact He.free_ok X G (T.c.fact 76 (f := .free "tuple") rfl)
theorem Tx.z_len (T : Tx K mg) : mg "len" = none := by obtain ⟨h, X, G⟩ := T.x; exact He.free_ok X G (T.c.fact 77 (f := .free "len") rfl)
theorem Tx.z_all (T : Tx K mg) : mg "all" = none := by obtain ⟨h, X, G⟩ := T.x; exact He.free_ok X G (T.c.fact 78 (f := .free "all") rfl)
theorem Tx.z_any (T : Tx K mg) : mg "any" = none := by obtain ⟨h, X, G⟩ := T.x; exact He.free_ok X G (T.c.fact 79 (f := .free "any") rfl)
theorem Tx.z_set (T : Tx K mg) : mg "set" = none := by obtain ⟨h, X, G⟩ := T.x; exact He.free_ok X G (T.c.fact 80 (f := .free "set") rfl)
theorem Tx.z_sorted (T : Tx K mg) : mg "sorted" = none := by obtain ⟨h, X, G⟩ := T.x; exact He.free_ok X G (T.c.fact 81 (f := .free "sorted") rfl)
theorem Tx.z_dict (T : Tx K mg) : mg "dict" = none := by obtain ⟨h, X, G⟩ := T.x; exact He.free_ok X G (T.c.fact 82 (f := .free "dict") rfl)
theorem Tx.z_range (T : Tx K mg) : mg "range" = none := by obtain ⟨h, X, G⟩ := T.x; exact He.free_ok X G (T.c.fact 83 (f := .free "range") rfl)
theorem Tx.z_enumerate (T : Tx K mg) : mg "enumerate" = none := by obtain ⟨h, X, G⟩ := T.x; exact He.free_ok X G (T.c.fact 84 (f := .free "enumerate") rfl)
theorem Tx.z_zip (T : Tx K mg) : mg "zip" = none := by obtain ⟨h, X, G⟩ := T.x; exact He.free_ok X G (T.c.fact 85 (f := .free "zip") rfl)
theorem Tx.z_min (T : Tx K mg) : mg "min" = none := by obtain ⟨h, X, G⟩ := T.x; exact He.free_ok X G (T.c.fact 86 (f := .free "min") rfl)
theorem Tx.z_max (T : Tx K mg) : mg "max" = none := by obtain ⟨h, X, G⟩ := T.x; exact He.free_ok X G (T.c.fact 87 (f := .free "max") rfl)
theorem Tx.z_sum (T : Tx K mg) : mg "sum" = none := by obtain ⟨h, X, G⟩ := T.x; exact He.free_ok X G (T.c.fact 88 (f := .free "sum") rfl)
theorem Tx.z_abs (T : Tx K mg) : mg "abs" = none := by obtain ⟨h, X, G⟩ := T.x; exact He.free_ok X G (T.c.fact 89 (f := .free "abs") rfl)
theorem Tx.z_repr (T : Tx K mg) : mg "repr" = none := by obtain ⟨h, X, G⟩ := T.x; exact He.free_ok X G (T.c.fact 90 (f := .free "repr") rfl)
theorem Tx.z_super (T : Tx K mg) : mg "super" = none := by obtain ⟨h, X, G⟩ := T.x; exact He.free_ok X G (T.c.fact 91 (f := .free "super") rfl)
theorem Tx.i_MOST_HEAPS (T : Tx K mg) : ∃ t, mg "MOST_HEAPS" = some (.int 60 t) := by obtain ⟨h, X, G⟩ := T.x; exact He.int_ok X G (T.c.fact 92 (f := .int "MOST_HEAPS" 60) rfl)
theorem Tx.i_MOST_LEFTS (T : Tx K mg) : ∃ t, mg "MOST_LEFTS" = some (.int 400 t) := by obtain ⟨h, X, G⟩ := T.x; exact He.int_ok X G (T.c.fact 93 (f := .int "MOST_LEFTS" 400) rfl)
theorem Tx.i_FARTHEST (T : Tx K mg) : ∃ t, mg "FARTHEST" = some (.int 1000000 t) := by obtain ⟨h, X, G⟩ := T.x; exact He.int_ok X G (T.c.fact 94 (f := .int "FARTHEST" 1000000) rfl)
theorem Tx.i_MOST_CHIPS (T : Tx K mg) : ∃ t, mg "MOST_CHIPS" = some (.int 1000000000000000000000000000000000000000000000000000000000000 t) := by obtain ⟨h, X, G⟩ := T.x; exact He.int_ok X G (T.c.fact 95 (f := .int "MOST_CHIPS" 1000000000000000000000000000000000000000000000000000000000000) rfl)
theorem Tx.i_MOST_FIGURES (T : Tx K mg) : ∃ t, mg "MOST_FIGURES" = some (.int 140 t) := by obtain ⟨h, X, G⟩ := T.x; exact He.int_ok X G (T.c.fact 96 (f := .int "MOST_FIGURES" 140) rfl)
theorem Tx.i_MOST_TICKS (T : Tx K mg) : ∃ t, mg "MOST_TICKS" = some (.int 200 t) := by obtain ⟨h, X, G⟩ := T.x; exact He.int_ok X G (T.c.fact 97 (f := .int "MOST_TICKS" 200) rfl)
theorem Tx.i_MOST_ROWS (T : Tx K mg) : ∃ t, mg "MOST_ROWS" = some (.int 40 t) := by obtain ⟨h, X, G⟩ := T.x; exact He.int_ok X G (T.c.fact 98 (f := .int "MOST_ROWS" 40) rfl)
theorem Tx.i_MOST_TICK (T : Tx K mg) : ∃ t, mg "MOST_TICK" = some (.int 60 t) := by obtain ⟨h, X, G⟩ := T.x; exact He.int_ok X G (T.c.fact 99 (f := .int "MOST_TICK" 60) rfl)
theorem Tx.i_MOST_WEIGHT (T : Tx K mg) : ∃ t, mg "MOST_WEIGHT" = some (.int 1000000 t) := by obtain ⟨h, X, G⟩ := T.x; exact He.int_ok X G (T.c.fact 100 (f := .int "MOST_WEIGHT" 1000000) rfl)
theorem Tx.i_FARTHEST_FIRST (T : Tx K mg) : ∃ t, mg "FARTHEST_FIRST" = some (.int 999900 t) := by obtain ⟨h, X, G⟩ := T.x; exact He.int_ok X G (T.c.fact 101 (f := .int "FARTHEST_FIRST" 999900) rfl)
theorem Tx.i_MOST_WIDE (T : Tx K mg) : ∃ t, mg "MOST_WIDE" = some (.int 118 t) := by obtain ⟨h, X, G⟩ := T.x; exact He.int_ok X G (T.c.fact 102 (f := .int "MOST_WIDE" 118) rfl)
theorem Tx.c_Line (T : Tx K mg) : Cls K (He.ga K "Line") := He.cls_ok (T.c.fact 103 (f := .cls "Line") rfl)
theorem Tx.c_Look (T : Tx K mg) : Cls K (He.ga K "Look") := He.cls_ok (T.c.fact 104 (f := .cls "Look") rfl)
theorem Tx.c_Worst (T : Tx K mg) : Cls K (He.ga K "Worst") := He.cls_ok (T.c.fact 105 (f := .cls "Worst") rfl)
theorem Tx.c_Paper (T : Tx K mg) : Cls K (He.ga K "Paper") := He.cls_ok (T.c.fact 106 (f := .cls "Paper") rfl)
theorem Tx.a_Line_tick (T : Tx K mg) : NoAttr K (He.ga K "Line") "tick" := He.noat_ok (T.c.fact 107 (f := .noat "Line" "tick") rfl)
theorem Tx.a_Line_heaps (T : Tx K mg) : NoAttr K (He.ga K "Line") "heaps" := He.noat_ok (T.c.fact 108 (f := .noat "Line" "heaps") rfl)
theorem Tx.a_Line_lefts (T : Tx K mg) : NoAttr K (He.ga K "Line") "lefts" := He.noat_ok (T.c.fact 109 (f := .noat "Line" "lefts") rfl)
theorem Tx.a_Look_rows (T : Tx K mg) : NoAttr K (He.ga K "Look") "rows" := He.noat_ok (T.c.fact 110 (f := .noat "Look" "rows") rfl)
theorem Tx.a_Look_last (T : Tx K mg) : NoAttr K (He.ga K "Look") "last" := He.noat_ok (T.c.fact 111 (f := .noat "Look" "last") rfl)
theorem Tx.a_Look_colour (T : Tx K mg) : NoAttr K (He.ga K "Look") "colour" := He.noat_ok (T.c.fact 112 (f := .noat "Look" "colour") rfl)
theorem Tx.a_Worst_word (T : Tx K mg) : NoAttr K (He.ga K "Worst") "word" := He.noat_ok (T.c.fact 113 (f := .noat "Worst" "word") rfl)
theorem Tx.a_Worst_parts (T : Tx K mg) : NoAttr K (He.ga K "Worst") "parts" := He.noat_ok (T.c.fact 114 (f := .noat "Worst" "parts") rfl)
theorem Tx.a_Worst_heaps (T : Tx K mg) : NoAttr K (He.ga K "Worst") "heaps" := He.noat_ok (T.c.fact 115 (f := .noat "Worst" "heaps") rfl)
theorem Tx.a_Worst_lefts (T : Tx K mg) : NoAttr K (He.ga K "Worst") "lefts" := He.noat_ok (T.c.fact 116 (f := .noat "Worst" "lefts") rfl)
theorem Tx.m_Line_advance (T : Tx K mg) : Meth K (He.ga K "Line") "advance" (He.ma K (He.ga K "Line") "advance") := He.meth_ok (T.c.fact 117 (f := .meth "Line" "advance") rfl)
theorem Tx.m_Line_forward (T : Tx K mg) : Meth K (He.ga K "Line") "forward" (He.ma K (He.ga K "Line") "forward") := He.meth_ok (T.c.fact 118 (f := .meth "Line" "forward") rfl)
theorem Tx.m_Line_heap_at (T : Tx K mg) : Meth K (He.ga K "Line") "heap_at" (He.ma K (He.ga K "Line") "heap_at") := He.meth_ok (T.c.fact 119 (f := .meth "Line" "heap_at") rfl)
theorem Tx.k_Line (T : Tx K mg) : Mk K (He.ga K "Line") (He.ma K (He.ga K "Line") "__init__") := He.mkr_ok (T.c.fact 120 (f := .mkr "Line") rfl)
theorem Tx.k_Look (T : Tx K mg) : Mk K (He.ga K "Look") (He.ma K (He.ga K "Look") "__init__") := He.mkr_ok (T.c.fact 121 (f := .mkr "Look") rfl)
theorem Tx.k_Worst (T : Tx K mg) : Mk K (He.ga K "Worst") (He.ma K (He.ga K "Worst") "__init__") := He.mkr_ok (T.c.fact 122 (f := .mkr "Worst") rfl)
theorem Tx.f_is_integer (T : Tx K mg) : ∃ fd, FunD K "is_integer" "is_integer" (defArgs s_is_integer) (defBody s_is_integer) (defScope s_is_integer) [] [] (He.ga K "is_integer") fd := T.c.def_ 0 (d := d_is_integer) rfl
theorem Tx.f_is_within (T : Tx K mg) : ∃ fd, FunD K "is_within" "is_within" (defArgs s_is_within) (defBody s_is_within) (defScope s_is_within) [] [] (He.ga K "is_within") fd := T.c.def_ 1 (d := d_is_within) rfl
theorem Tx.f_are_integers (T : Tx K mg) : ∃ fd, FunD K "are_integers" "are_integers" (defArgs s_are_integers) (defBody s_are_integers) (defScope s_are_integers) [] [] (He.ga K "are_integers") fd := T.c.def_ 2 (d := d_are_integers) rfl
theorem Tx.f_need_number (T : Tx K mg) : ∃ fd, FunD K "need_number" "need_number" (defArgs s_need_number) (defBody s_need_number) (defScope s_need_number) [] [] (He.ga K "need_number") fd := T.c.def_ 3 (d := d_need_number) rfl
theorem Tx.f_is_heap (T : Tx K mg) : ∃ fd, FunD K "is_heap" "is_heap" (defArgs s_is_heap) (defBody s_is_heap) (defScope s_is_heap) [] [] (He.ga K "is_heap") fd := T.c.def_ 4 (d := d_is_heap) rfl
theorem Tx.f_are_heaps (T : Tx K mg) : ∃ fd, FunD K "are_heaps" "are_heaps" (defArgs s_are_heaps) (defBody s_are_heaps) (defScope s_are_heaps) [] [] (He.ga K "are_heaps") fd := T.c.def_ 5 (d := d_are_heaps) rfl
theorem Tx.f_kept_heaps (T : Tx K mg) : ∃ fd, FunD K "kept_heaps" "kept_heaps" (defArgs s_kept_heaps) (defBody s_kept_heaps) (defScope s_kept_heaps) [] [] (He.ga K "kept_heaps") fd := T.c.def_ 6 (d := d_kept_heaps) rfl
theorem Tx.f_colour_in (T : Tx K mg) : ∃ fd, FunD K "colour_in" "colour_in" (defArgs s_colour_in) (defBody s_colour_in) (defScope s_colour_in) [] [] (He.ga K "colour_in") fd := T.c.def_ 7 (d := d_colour_in) rfl
theorem Tx.f_spots_of (T : Tx K mg) : ∃ fd, FunD K "spots_of" "spots_of" (defArgs s_spots_of) (defBody s_spots_of) (defScope s_spots_of) [] [] (He.ga K "spots_of") fd := T.c.def_ 8 (d := d_spots_of) rfl
theorem Tx.f_need_heaps (T : Tx K mg) : ∃ fd, FunD K "need_heaps" "need_heaps" (defArgs s_need_heaps) (defBody s_need_heaps) (defScope s_need_heaps) [] [] (He.ga K "need_heaps") fd := T.c.def_ 9 (d := d_need_heaps) rfl
theorem Tx.f_need_colour (T : Tx K mg) : ∃ fd, FunD K "need_colour" "need_colour" (defArgs s_need_colour) (defBody s_need_colour) (defScope s_need_colour) [] [] (He.ga K "need_colour") fd := T.c.def_ 10 (d := d_need_colour) rfl
theorem Tx.f_need_lefts (T : Tx K mg) : ∃ fd, FunD K "need_lefts" "need_lefts" (defArgs s_need_lefts) (defBody s_need_lefts) (defScope s_need_lefts) [V.str "lefts"] [] (He.ga K "need_lefts") fd := T.c.def_ 11 (d := d_need_lefts) rfl
theorem Tx.f_need_start (T : Tx K mg) : ∃ fd, FunD K "need_start" "need_start" (defArgs s_need_start) (defBody s_need_start) (defScope s_need_start) [] [] (He.ga K "need_start") fd := T.c.def_ 12 (d := d_need_start) rfl
theorem Tx.f_Line_init (T : Tx K mg) : ∃ fd, FunD K "__init__" "Line.__init__" (defArgs s_Line_init) (defBody s_Line_init) (defScope s_Line_init) [] [] (He.ma K (He.ga K "Line") "__init__") fd := T.c.def_ 13 (d := d_Line_init) rfl
theorem Tx.f_Line_heap_at (T : Tx K mg) : ∃ fd, FunD K "heap_at" "Line.heap_at" (defArgs s_Line_heap_at) (defBody s_Line_heap_at) (defScope s_Line_heap_at) [] [] (He.ma K (He.ga K "Line") "heap_at") fd := T.c.def_ 14 (d := d_Line_heap_at) rfl
theorem Tx.f_Line_advance (T : Tx K mg) : ∃ fd, FunD K "advance" "Line.advance" (defArgs s_Line_advance) (defBody s_Line_advance) (defScope s_Line_advance) [] [] (He.ma K (He.ga K "Line") "advance") fd := T.c.def_ 15 (d := d_Line_advance) rfl
theorem Tx.f_Line_forward (T : Tx K mg) : ∃ fd, FunD K "forward" "Line.forward" (defArgs s_Line_forward) (defBody s_Line_forward) (defScope s_Line_forward) [] [] (He.ma K (He.ga K "Line") "forward") fd := T.c.def_ 16 (d := d_Line_forward) rfl
theorem Tx.f_line_at (T : Tx K mg) : ∃ fd, FunD K "line_at" "line_at" (defArgs s_line_at) (defBody s_line_at) (defScope s_line_at) [] [] (He.ga K "line_at") fd := T.c.def_ 17 (d := d_line_at) rfl
theorem Tx.f_sent_on (T : Tx K mg) : ∃ fd, FunD K "sent_on" "sent_on" (defArgs s_sent_on) (defBody s_sent_on) (defScope s_sent_on) [] [] (He.ga K "sent_on") fd := T.c.def_ 18 (d := d_sent_on) rfl
theorem Tx.f_is_weight (T : Tx K mg) : ∃ fd, FunD K "is_weight" "is_weight" (defArgs s_is_weight) (defBody s_is_weight) (defScope s_is_weight) [] [] (He.ga K "is_weight") fd := T.c.def_ 19 (d := d_is_weight) rfl
theorem Tx.f_is_row (T : Tx K mg) : ∃ fd, FunD K "is_row" "is_row" (defArgs s_is_row) (defBody s_is_row) (defScope s_is_row) [] [] (He.ga K "is_row") fd := T.c.def_ 20 (d := d_is_row) rfl
theorem Tx.f_are_rows (T : Tx K mg) : ∃ fd, FunD K "are_rows" "are_rows" (defArgs s_are_rows) (defBody s_are_rows) (defScope s_are_rows) [] [] (He.ga K "are_rows") fd := T.c.def_ 21 (d := d_are_rows) rfl
theorem Tx.f_place_of (T : Tx K mg) : ∃ fd, FunD K "place_of" "place_of" (defArgs s_place_of) (defBody s_place_of) (defScope s_place_of) [] [] (He.ga K "place_of") fd := T.c.def_ 22 (d := d_place_of) rfl
theorem Tx.f_colour_at (T : Tx K mg) : ∃ fd, FunD K "colour_at" "colour_at" (defArgs s_colour_at) (defBody s_colour_at) (defScope s_colour_at) [] [] (He.ga K "colour_at") fd := T.c.def_ 23 (d := d_colour_at) rfl
theorem Tx.f_Look_init (T : Tx K mg) : ∃ fd, FunD K "__init__" "Look.__init__" (defArgs s_Look_init) (defBody s_Look_init) (defScope s_Look_init) [] [] (He.ma K (He.ga K "Look") "__init__") fd := T.c.def_ 24 (d := d_Look_init) rfl
theorem Tx.f_need_look (T : Tx K mg) : ∃ fd, FunD K "need_look" "need_look" (defArgs s_need_look) (defBody s_need_look) (defScope s_need_look) [V.str "look"] [] (He.ga K "need_look") fd := T.c.def_ 25 (d := d_need_look) rfl
theorem Tx.f_weighed (T : Tx K mg) : ∃ fd, FunD K "weighed" "weighed" (defArgs s_weighed) (defBody s_weighed) (defScope s_weighed) [] [] (He.ga K "weighed") fd := T.c.def_ 26 (d := d_weighed) rfl
theorem Tx.f_joined_looks (T : Tx K mg) : ∃ fd, FunD K "joined_looks" "joined_looks" (defArgs s_joined_looks) (defBody s_joined_looks) (defScope s_joined_looks) [] [] (He.ga K "joined_looks") fd := T.c.def_ 27 (d := d_joined_looks) rfl
theorem Tx.f_scaled_look (T : Tx K mg) : ∃ fd, FunD K "scaled_look" "scaled_look" (defArgs s_scaled_look) (defBody s_scaled_look) (defScope s_scaled_look) [] [] (He.ga K "scaled_look") fd := T.c.def_ 28 (d := d_scaled_look) rfl
theorem Tx.f_moved_look (T : Tx K mg) : ∃ fd, FunD K "moved_look" "moved_look" (defArgs s_moved_look) (defBody s_moved_look) (defScope s_moved_look) [] [] (He.ga K "moved_look") fd := T.c.def_ 29 (d := d_moved_look) rfl
theorem Tx.f_least_pair (T : Tx K mg) : ∃ fd, FunD K "least_pair" "least_pair" (defArgs s_least_pair) (defBody s_least_pair) (defScope s_least_pair) [] [] (He.ga K "least_pair") fd := T.c.def_ 30 (d := d_least_pair) rfl
theorem Tx.f_both (T : Tx K mg) : ∃ fd, FunD K "both" "both" (defArgs s_both) (defBody s_both) (defScope s_both) [] [] (He.ga K "both") fd := T.c.def_ 31 (d := d_both) rfl
theorem Tx.f_times (T : Tx K mg) : ∃ fd, FunD K "times" "times" (defArgs s_times) (defBody s_times) (defScope s_times) [] [] (He.ga K "times") fd := T.c.def_ 32 (d := d_times) rfl
theorem Tx.f_turned (T : Tx K mg) : ∃ fd, FunD K "turned" "turned" (defArgs s_turned) (defBody s_turned) (defScope s_turned) [] [] (He.ga K "turned") fd := T.c.def_ 33 (d := d_turned) rfl
theorem Tx.f_is_less (T : Tx K mg) : ∃ fd, FunD K "is_less" "is_less" (defArgs s_is_less) (defBody s_is_less) (defScope s_is_less) [] [] (He.ga K "is_less") fd := T.c.def_ 34 (d := d_is_less) rfl
theorem Tx.f_total_of (T : Tx K mg) : ∃ fd, FunD K "total_of" "total_of" (defArgs s_total_of) (defBody s_total_of) (defScope s_total_of) [] [] (He.ga K "total_of") fd := T.c.def_ 35 (d := d_total_of) rfl
theorem Tx.f_fixed (T : Tx K mg) : ∃ fd, FunD K "fixed" "fixed" (defArgs s_fixed) (defBody s_fixed) (defScope s_fixed) [] [] (He.ga K "fixed") fd := T.c.def_ 36 (d := d_fixed) rfl
theorem Tx.f_Paper_init (T : Tx K mg) : ∃ fd, FunD K "__init__" "Paper.__init__" (defArgs s_Paper_init) (defBody s_Paper_init) (defScope s_Paper_init) [] [] (He.ma K (He.ga K "Paper") "__init__") fd := T.c.def_ 37 (d := d_Paper_init) rfl
theorem Tx.f_first_counts (T : Tx K mg) : ∃ fd, FunD K "first_counts" "first_counts" (defArgs s_first_counts) (defBody s_first_counts) (defScope s_first_counts) [] [] (He.ga K "first_counts") fd := T.c.def_ 38 (d := d_first_counts) rfl
theorem Tx.f_row_changes (T : Tx K mg) : ∃ fd, FunD K "row_changes" "row_changes" (defArgs s_row_changes) (defBody s_row_changes) (defScope s_row_changes) [] [] (He.ga K "row_changes") fd := T.c.def_ 39 (d := d_row_changes) rfl
theorem Tx.f_all_changes (T : Tx K mg) : ∃ fd, FunD K "all_changes" "all_changes" (defArgs s_all_changes) (defBody s_all_changes) (defScope s_all_changes) [] [] (He.ga K "all_changes") fd := T.c.def_ 40 (d := d_all_changes) rfl
theorem Tx.f_change_in (T : Tx K mg) : ∃ fd, FunD K "change_in" "change_in" (defArgs s_change_in) (defBody s_change_in) (defScope s_change_in) [] [] (He.ga K "change_in") fd := T.c.def_ 41 (d := d_change_in) rfl
theorem Tx.f_more_of (T : Tx K mg) : ∃ fd, FunD K "more_of" "more_of" (defArgs s_more_of) (defBody s_more_of) (defScope s_more_of) [] [] (He.ga K "more_of") fd := T.c.def_ 42 (d := d_more_of) rfl
theorem Tx.f_with_pick (T : Tx K mg) : ∃ fd, FunD K "with_pick" "with_pick" (defArgs s_with_pick) (defBody s_with_pick) (defScope s_with_pick) [] [] (He.ga K "with_pick") fd := T.c.def_ 43 (d := d_with_pick) rfl
theorem Tx.f_best_turns (T : Tx K mg) : ∃ fd, FunD K "best_turns" "best_turns" (defArgs s_best_turns) (defBody s_best_turns) (defScope s_best_turns) [] [] (He.ga K "best_turns") fd := T.c.def_ 44 (d := d_best_turns) rfl
theorem Tx.f_spots_changes (T : Tx K mg) : ∃ fd, FunD K "spots_changes" "spots_changes" (defArgs s_spots_changes) (defBody s_spots_changes) (defScope s_spots_changes) [] [] (He.ga K "spots_changes") fd := T.c.def_ 45 (d := d_spots_changes) rfl
theorem Tx.f_reach_in (T : Tx K mg) : ∃ fd, FunD K "reach_in" "reach_in" (defArgs s_reach_in) (defBody s_reach_in) (defScope s_reach_in) [] [] (He.ga K "reach_in") fd := T.c.def_ 46 (d := d_reach_in) rfl
theorem Tx.f_reach_of (T : Tx K mg) : ∃ fd, FunD K "reach_of" "reach_of" (defArgs s_reach_of) (defBody s_reach_of) (defScope s_reach_of) [] [] (He.ga K "reach_of") fd := T.c.def_ 47 (d := d_reach_of) rfl
theorem Tx.f_added_wish (T : Tx K mg) : ∃ fd, FunD K "added_wish" "added_wish" (defArgs s_added_wish) (defBody s_added_wish) (defScope s_added_wish) [] [] (He.ga K "added_wish") fd := T.c.def_ 48 (d := d_added_wish) rfl
theorem Tx.f_free_wish (T : Tx K mg) : ∃ fd, FunD K "free_wish" "free_wish" (defArgs s_free_wish) (defBody s_free_wish) (defScope s_free_wish) [] [] (He.ga K "free_wish") fd := T.c.def_ 49 (d := d_free_wish) rfl
theorem Tx.f_ends_of (T : Tx K mg) : ∃ fd, FunD K "ends_of" "ends_of" (defArgs s_ends_of) (defBody s_ends_of) (defScope s_ends_of) [] [] (He.ga K "ends_of") fd := T.c.def_ 50 (d := d_ends_of) rfl
theorem Tx.f_later_row (T : Tx K mg) : ∃ fd, FunD K "later_row" "later_row" (defArgs s_later_row) (defBody s_later_row) (defScope s_later_row) [] [] (He.ga K "later_row") fd := T.c.def_ 51 (d := d_later_row) rfl
theorem Tx.f_heaps_for (T : Tx K mg) : ∃ fd, FunD K "heaps_for" "heaps_for" (defArgs s_heaps_for) (defBody s_heaps_for) (defScope s_heaps_for) [] [] (He.ga K "heaps_for") fd := T.c.def_ 52 (d := d_heaps_for) rfl
theorem Tx.f_need_near (T : Tx K mg) : ∃ fd, FunD K "need_near" "need_near" (defArgs s_need_near) (defBody s_need_near) (defScope s_need_near) [] [] (He.ga K "need_near") fd := T.c.def_ 53 (d := d_need_near) rfl
theorem Tx.f_worst_start (T : Tx K mg) : ∃ fd, FunD K "worst_start" "worst_start" (defArgs s_worst_start) (defBody s_worst_start) (defScope s_worst_start) [] [] (He.ga K "worst_start") fd := T.c.def_ 54 (d := d_worst_start) rfl
theorem Tx.f_choices (T : Tx K mg) : ∃ fd, FunD K "choices" "choices" (defArgs s_choices) (defBody s_choices) (defScope s_choices) [] [] (He.ga K "choices") fd := T.c.def_ 55 (d := d_choices) rfl
theorem Tx.f_rows_to (T : Tx K mg) : ∃ fd, FunD K "rows_to" "rows_to" (defArgs s_rows_to) (defBody s_rows_to) (defScope s_rows_to) [] [] (He.ga K "rows_to") fd := T.c.def_ 56 (d := d_rows_to) rfl
theorem Tx.f_mean_in (T : Tx K mg) : ∃ fd, FunD K "mean_in" "mean_in" (defArgs s_mean_in) (defBody s_mean_in) (defScope s_mean_in) [] [] (He.ga K "mean_in") fd := T.c.def_ 57 (d := d_mean_in) rfl
theorem Tx.f_worth_in (T : Tx K mg) : ∃ fd, FunD K "worth_in" "worth_in" (defArgs s_worth_in) (defBody s_worth_in) (defScope s_worth_in) [] [] (He.ga K "worth_in") fd := T.c.def_ 58 (d := d_worth_in) rfl
theorem Tx.f_mean_of_look (T : Tx K mg) : ∃ fd, FunD K "mean_of_look" "mean_of_look" (defArgs s_mean_of_look) (defBody s_mean_of_look) (defScope s_mean_of_look) [] [] (He.ga K "mean_of_look") fd := T.c.def_ 59 (d := d_mean_of_look) rfl
theorem Tx.f_is_start (T : Tx K mg) : ∃ fd, FunD K "is_start" "is_start" (defArgs s_is_start) (defBody s_is_start) (defScope s_is_start) [] [] (He.ga K "is_start") fd := T.c.def_ 60 (d := d_is_start) rfl
theorem Tx.f_shows_worst (T : Tx K mg) : ∃ fd, FunD K "shows_worst" "shows_worst" (defArgs s_shows_worst) (defBody s_shows_worst) (defScope s_shows_worst) [] [] (He.ga K "shows_worst") fd := T.c.def_ 61 (d := d_shows_worst) rfl
theorem Tx.f_law_breeze (T : Tx K mg) : ∃ fd, FunD K "_law_breeze" "_law_breeze" (defArgs s_law_breeze) (defBody s_law_breeze) (defScope s_law_breeze) [] [] (He.ga K "_law_breeze") fd := T.c.def_ 62 (d := d_law_breeze) rfl
theorem Tx.f_law_puff (T : Tx K mg) : ∃ fd, FunD K "_law_puff" "_law_puff" (defArgs s_law_puff) (defBody s_law_puff) (defScope s_law_puff) [] [] (He.ga K "_law_puff") fd := T.c.def_ 63 (d := d_law_puff) rfl
theorem Tx.f_law_one (T : Tx K mg) : ∃ fd, FunD K "_law_one" "_law_one" (defArgs s_law_one) (defBody s_law_one) (defScope s_law_one) [] [] (He.ga K "_law_one") fd := T.c.def_ 64 (d := d_law_one) rfl
theorem Tx.f_law_rows (T : Tx K mg) : ∃ fd, FunD K "_law_rows" "_law_rows" (defArgs s_law_rows) (defBody s_law_rows) (defScope s_law_rows) [] [] (He.ga K "_law_rows") fd := T.c.def_ 65 (d := d_law_rows) rfl
theorem Tx.f_law_paths (T : Tx K mg) : ∃ fd, FunD K "_law_paths" "_law_paths" (defArgs s_law_paths) (defBody s_law_paths) (defScope s_law_paths) [] [] (He.ga K "_law_paths") fd := T.c.def_ 66 (d := d_law_paths) rfl
theorem Tx.f_law_share (T : Tx K mg) : ∃ fd, FunD K "_law_share" "_law_share" (defArgs s_law_share) (defBody s_law_share) (defScope s_law_share) [] [] (He.ga K "_law_share") fd := T.c.def_ 67 (d := d_law_share) rfl
theorem Tx.f_law_sent (T : Tx K mg) : ∃ fd, FunD K "_law_sent" "_law_sent" (defArgs s_law_sent) (defBody s_law_sent) (defScope s_law_sent) [] [] (He.ga K "_law_sent") fd := T.c.def_ 68 (d := d_law_sent) rfl
theorem Tx.f_law_gap (T : Tx K mg) : ∃ fd, FunD K "_law_gap" "_law_gap" (defArgs s_law_gap) (defBody s_law_gap) (defScope s_law_gap) [] [] (He.ga K "_law_gap") fd := T.c.def_ 69 (d := d_law_gap) rfl
theorem Tx.f_law_is (T : Tx K mg) : ∃ fd, FunD K "_law_is" "_law_is" (defArgs s_law_is) (defBody s_law_is) (defScope s_law_is) [] [] (He.ga K "_law_is") fd := T.c.def_ 70 (d := d_law_is) rfl
theorem Tx.f_law (T : Tx K mg) : ∃ fd, FunD K "law" "law" (defArgs s_law) (defBody s_law) (defScope s_law) [] [] (He.ga K "law") fd := T.c.def_ 71 (d := d_law) rfl
theorem Tx.g_gcd (T : Tx K mg) : mg "gcd" = some (.builtin "math.gcd") := by
  obtain ⟨h, X, G⟩ := T.x
  obtain ⟨a, _⟩ := He.ba T.e
  exact PySem.W.mg_of X G (He.eqO_ok a)
theorem Tx.t_NOUGHT (T : Tx K mg) (H : Hp) : SqT K H (He.ga K "NOUGHT") [.int 0, .int 1] := by
  obtain ⟨_, b⟩ := He.ba T.e
  obtain ⟨a, _⟩ := He.ba b
  exact He.tupB_ok a H
theorem insB_ok {x : Str} (h : insB K x = true) (c : Cls K (He.ga K x)) : PySem.W.kitOne K (.ref (He.ga K x)) (.ref (He.ga K x)) = some true ∧
    ∀ {H : Hp} {a dx : Addr} {fs : List (Str × V)}, H a = some (.ins (He.ga K x) dx fs) → TyOf K H (.ref a) (.ref (He.ga K x)) := by
  obtain ⟨h1, h⟩ := He.ba h
  obtain ⟨h2, h⟩ := He.ba h
  obtain ⟨h3, h⟩ := He.ba h
  obtain ⟨h4, h5⟩ := He.ba h
  exact ⟨of_decide_eq_true h5, fun e => .ins e c (He.eqO_ok h1) (of_decide_eq_true h2) (of_decide_eq_true h3) (of_decide_eq_true h4)⟩
theorem Tx.y_Look (T : Tx K mg) : PySem.W.kitOne K (.ref (He.ga K "Look")) (.ref (He.ga K "Look")) = some true ∧
    ∀ {H : Hp} {a dx : Addr} {fs : List (Str × V)}, H a = some (.ins (He.ga K "Look") dx fs) → TyOf K H (.ref a) (.ref (He.ga K "Look")) := by
  obtain ⟨_, b⟩ := He.ba T.e
  obtain ⟨_, b⟩ := He.ba b
  obtain ⟨a, _⟩ := He.ba b
  exact insB_ok a T.c_Look
theorem Tx.y_Worst (T : Tx K mg) : PySem.W.kitOne K (.ref (He.ga K "Worst")) (.ref (He.ga K "Worst")) = some true ∧
    ∀ {H : Hp} {a dx : Addr} {fs : List (Str × V)}, H a = some (.ins (He.ga K "Worst") dx fs) → TyOf K H (.ref a) (.ref (He.ga K "Worst")) := by
  obtain ⟨_, b⟩ := He.ba T.e
  obtain ⟨_, b⟩ := He.ba b
  obtain ⟨_, a⟩ := He.ba b
  exact insB_ok a T.c_Worst
end
/-! a def that keeps its promise -/
def Ok (P : Program) (w : World) (K : PySem.W.Frag) (mg : Str → Option Value) (base : Heap) (k : Nat) (f : Addr) (ps : List Str) (sp : Sp) : Prop :=
  PySem.W.keepIn K (.ref f) = true ∧ ∃ fd, FnOk P w K mg base CX0 k f fd ps sp ∧ Binds K fd ps []
section
variable {P : Program} {w : World} {K : PySem.W.Frag} {mg : Str → Option Value} {base : Heap}
theorem Ok.mk {x qual : Str} {st : Stmt} {f : Addr} {N ps : List Str} {k : Nat} {sp : Sp} (F : ∃ fd, FunD K x qual (defArgs st) (defBody st) (defScope st) [] [] f fd) (S : FnScope N ps (defScope st)) (len : ∀ vs H Q E, sp vs H Q E → vs.length = ps.length)
    (hb : ∀ (kV doc pm : Value) (an : Option Addr) (cdv ct : Value) (us : List Value), us.length = ps.length → bindArgs (PySem.W.fnOf x qual (defArgs st) (defBody st) (defScope st) .none kV doc pm an cdv ct) ⟨us, []⟩ = pure (ps.zip us))
    (body : ∀ (cdv : Value) (A : Around) (outer : List Env) (s : Shared) (H : Hp) (vs : List V) (Q : VK) (E : XK), Room k (A.deeper (envOfC qual (defScope st) s.heap.objs.size f cdv)) → sp vs H Q E →
      ∃ t, PSs (cxOf CX0 P w K mg base N qual (defScope st) f cdv A outer s H E).nox (defBody st) t ∧ t { nx := fun _ H' => Q .non H', rt := Q } (start N vs) H) : Ok P w K mg base (k + 1) f ps sp := by
  obtain ⟨fd, F⟩ := F
  refine ⟨F.kp, fd, F.ok S len fun cdv A outer s H vs Q E hr h => ?_, F.bindsN hb⟩
  obtain ⟨t, h1, h2⟩ := body cdv A outer s H vs Q E hr h
  exact ⟨t, PSs.nox h1, h2⟩
theorem Ok.mono {j k : Nat} {f : Addr} {ps : List Str} {sp : Sp} (o : Ok P w K mg base j f ps sp) (h : j ≤ k) : Ok P w K mg base k f ps sp := by
  obtain ⟨a, fd, b, c⟩ := o
  exact ⟨a, fd, b.mono h, c⟩
theorem Ok.imp {k : Nat} {f : Addr} {ps : List Str} {sp sp' : Sp} (o : Ok P w K mg base k f ps sp) (h : ∀ vs H Q E, sp' vs H Q E → sp vs H Q E) : Ok P w K mg base k f ps sp' := by
  obtain ⟨a, fd, b, c⟩ := o
  exact ⟨a, fd, b.imp h, c⟩
end
/-- f(e, ..) of a def of the text -/
theorem pe_fn {X : Cx} {k : Nat} {f : Addr} {ps : List Str} {sp : Sp} {x : Str} {p pos : Pos} {e : Expr} {es : List Expr} {t : TA} (O : Ok X.prog X.w X.K X.mg X.base k f ps sp) (hr : Room k X.A) (hm : X.mg x = some (.ref f)) (ha : PA X (e :: es) t)
    (hg : Gl X x := by rfl) (hdb : (x == ("__debug__" : Str)) = false := by decide) (he : starEach (e :: es) X.env = (false, eval e X.env) :: starEach es X.env := by rfl) (hpl : (backTo pos (starEach es X.env)).any (·.1) = false := by rfl) :
    PE X (.Call (.Name x p) (e :: es) [] pos) (tCall sp [] E0 t) := by
  obtain ⟨kp, fd, F, b⟩ := O
  exact pe_call F hr hg hm kp b .nil pass0 ha hdb he hpl
end Nw
namespace Nw
open PySem PySem.Spec PyProof.Rows L2
/-! what stays -/
theorem same_t {K : PySem.W.Frag} {H H' : Hp} {a : Addr} {xs : List V} (s : Same H H') (h : SqT K H a xs) : SqT K H' a xs := by
  rcases h with (h | ⟨o, h⟩) | h
  · exact .inl (.inl (s _ _ h))
  · exact .inl (.inr ⟨o, s _ _ h⟩)
  · exact .inr h
theorem same_new {H : Hp} {p : Addr} {o : HO} (h : H p = none) : Same H (upd H p o) := fun b u e => by
  rw [upd_ne (ne_of_none e h)]; exact e
theorem same_put {H H' : Hp} {p : Addr} {o : HO} (s : Same H H') (h : H p = none) : Same H (upd H' p o) := fun b u e => by
  rw [upd_ne (ne_of_none e h)]; exact s _ _ e
/-- the tuples stay -/
def Stay (K : PySem.W.Frag) (H H' : Hp) : Prop := (∀ a xs, SqT K H a xs → SqT K H' a xs) ∧ ∀ a xs, H a = some (.tup xs) → H' a = some (.tup xs)
theorem Stay.refl {K : PySem.W.Frag} (H : Hp) : Stay K H H := ⟨fun _ _ h => h, fun _ _ h => h⟩
theorem Stay.trans {K : PySem.W.Frag} {H H1 H2 : Hp} (a : Stay K H H1) (b : Stay K H1 H2) : Stay K H H2 := ⟨fun x y h => b.1 x y (a.1 x y h), fun x y h => b.2 x y (a.2 x y h)⟩
theorem Stay.same {K : PySem.W.Frag} {H H' : Hp} (s : Same H H') : Stay K H H' := ⟨fun _ _ h => same_t s h, fun _ _ h => s _ _ h⟩
/-- a thing that is no tuple -/
def noTup : Option HO → Bool
  | some (.tup _) => false
  | some (.frz _ _) => false
  | _ => true
theorem Stay.put {K : PySem.W.Frag} {H : Hp} {p : Addr} {o : HO} (h : noTup (H p) = true) : Stay K H (upd H p o) := by
  refine ⟨fun a xs q => ?_, fun a xs q => by rw [upd_ne (fun e => by rw [← e, q] at h; cases h)]; exact q⟩
  rcases q with (q | ⟨ob, q⟩) | q
  · refine .inl (.inl ?_)
    rw [upd_ne (fun e => by rw [← e, q] at h; cases h)]; exact q
  · refine .inl (.inr ⟨ob, ?_⟩)
    rw [upd_ne (fun e => by rw [← e, q] at h; cases h)]; exact q
  · exact .inr q
theorem Stay.lst {K : PySem.W.Frag} {H : Hp} {p : Addr} {l : List V} {o : HO} (h : H p = some (.lst l)) : Stay K H (upd H p o) := .put (by rw [h]; rfl)
theorem Stay.dK {K : PySem.W.Frag} {H : Hp} {p : Addr} {l : List (Key × V)} {o : HO} (h : H p = some (.dK l)) : Stay K H (upd H p o) := .put (by rw [h]; rfl)
theorem Stay.dT {K : PySem.W.Frag} {H : Hp} {p : Addr} {l : List (List Key × V)} {o : HO} (h : H p = some (.dT l)) : Stay K H (upd H p o) := .put (by rw [h]; rfl)
theorem Stay.ins {K : PySem.W.Frag} {H : Hp} {p C dx : Addr} {l : List (Str × V)} {o : HO} (h : H p = some (.ins C dx l)) : Stay K H (upd H p o) := .put (by rw [h]; rfl)
theorem Stay.new {K : PySem.W.Frag} {H : Hp} {p : Addr} {o : HO} (h : H p = none) : Stay K H (upd H p o) := .put (by rw [h]; rfl)
/-! data of tuples -/
mutual
inductive Tp (K : PySem.W.Frag) (H : Hp) : V → PyData → Prop
  | non : Tp K H .non .none
  | bl (b : Bool) : Tp K H (.bl b) (.bool b)
  | int (i : Int) : Tp K H (.int i) (.int i)
  | str (x : Str) : Tp K H (.str x) (.str x)
  | tup {a : Addr} {xs : List V} {ds : List PyData} : SqT K H a xs → TpAll K H xs ds → Tp K H (.ref a) (.tuple ds)
inductive TpAll (K : PySem.W.Frag) (H : Hp) : List V → List PyData → Prop
  | nil : TpAll K H [] []
  | cons {v : V} {vs : List V} {d : PyData} {ds : List PyData} : Tp K H v d → TpAll K H vs ds → TpAll K H (v :: vs) (d :: ds)
end
mutual
theorem Tp.stay {K : PySem.W.Frag} {H H' : Hp} (s : Stay K H H') : ∀ {v : V} {d : PyData}, Tp K H v d → Tp K H' v d
  | _, _, .non => .non
  | _, _, .bl b => .bl b
  | _, _, .int i => .int i
  | _, _, .str x => .str x
  | _, _, .tup h a => .tup (s.1 _ _ h) (TpAll.stay s a)
theorem TpAll.stay {K : PySem.W.Frag} {H H' : Hp} (s : Stay K H H') : ∀ {vs : List V} {ds : List PyData}, TpAll K H vs ds → TpAll K H' vs ds
  | _, _, .nil => .nil
  | _, _, .cons h t => .cons (Tp.stay s h) (TpAll.stay s t)
end
mutual
theorem Tp.dp {K : PySem.W.Frag} {H : Hp} : ∀ {v : V} {d : PyData}, Tp K H v d → Dp K H v d
  | _, _, .non => .non
  | _, _, .bl b => .bl b
  | _, _, .int i => .int i
  | _, _, .str x => .str x
  | _, _, .tup h a => .tup h (TpAll.dp a)
theorem TpAll.dp {K : PySem.W.Frag} {H : Hp} : ∀ {vs : List V} {ds : List PyData}, TpAll K H vs ds → DpAll K H vs ds
  | _, _, .nil => .nil
  | _, _, .cons h t => .cons (Tp.dp h) (TpAll.dp t)
end
theorem Tp.same {K : PySem.W.Frag} {H H' : Hp} {v : V} {d : PyData} (h : Tp K H v d) (s : Same H H') : Tp K H' v d := Tp.stay (.same s) h
theorem TpAll.same {K : PySem.W.Frag} {H H' : Hp} {v : List V} {d : List PyData} (h : TpAll K H v d) (s : Same H H') : TpAll K H' v d := TpAll.stay (.same s) h
theorem TpAll.length {K : PySem.W.Frag} {H : Hp} : ∀ {vs : List V} {ds : List PyData}, TpAll K H vs ds → vs.length = ds.length
  | _, _, .nil => rfl
  | _, _, .cons _ t => congrArg (· + 1) (TpAll.length t)
theorem TpAll.append {K : PySem.W.Frag} {H : Hp} : ∀ {vs ws : List V} {ds es : List PyData}, TpAll K H vs ds → TpAll K H ws es → TpAll K H (vs ++ ws) (ds ++ es)
  | _, _, _, _, .nil, h => h
  | _, _, _, _, .cons a t, h => .cons a (TpAll.append t h)
theorem TpAll.snoc {K : PySem.W.Frag} {H : Hp} {vs : List V} {v : V} {ds : List PyData} {d : PyData} (h : TpAll K H vs ds) (a : Tp K H v d) : TpAll K H (vs ++ [v]) (ds ++ [d]) := h.append (.cons a .nil)
theorem TpAll.get {K : PySem.W.Frag} {H : Hp} : ∀ {vs : List V} {ds : List PyData} {i : Nat} {v : V}, TpAll K H vs ds → vs[i]? = some v → ∃ d, ds[i]? = some d ∧ Tp K H v d
  | _, _, i, v, .nil, h => by simp at h
  | _, _, 0, v, .cons a t, h => by simp at h; subst h; exact ⟨_, rfl, a⟩
  | _, _, i + 1, v, .cons a t, h => by
    simp only [List.getElem?_cons_succ] at h ⊢
    exact TpAll.get t h
theorem TpAll.at {K : PySem.W.Frag} {H : Hp} : ∀ {vs : List V} {ds : List PyData} {i : Nat} {d : PyData}, TpAll K H vs ds → ds[i]? = some d → ∃ v, vs[i]? = some v ∧ Tp K H v d
  | _, _, i, v, .nil, h => by simp at h
  | _, _, 0, v, .cons a t, h => by simp at h; subst h; exact ⟨_, rfl, a⟩
  | _, _, i + 1, v, .cons a t, h => by
    simp only [List.getElem?_cons_succ] at h ⊢
    exact TpAll.at t h
/-- of typed data -/
theorem TpAll.mapGet {α : Type} {K : PySem.W.Frag} {H : Hp} {f : α → PyData} {l : List α} {vs : List V} {i : Nat} {v : V} (h : TpAll K H vs (l.map f)) (e : vs[i]? = some v) : ∃ x, l[i]? = some x ∧ Tp K H v (f x) := by
  obtain ⟨d, h1, h2⟩ := h.get e
  rw [List.getElem?_map] at h1
  obtain ⟨x, h3, rfl⟩ := Option.map_eq_some_iff.mp h1
  exact ⟨x, h3, h2⟩
theorem Tp.int_inv {K : PySem.W.Frag} {H : Hp} {v : V} {i : Int} (h : Tp K H v (.int i)) : v = .int i := by cases h; rfl
theorem Tp.tup_inv {K : PySem.W.Frag} {H : Hp} {v : V} {ds : List PyData} (h : Tp K H v (.tuple ds)) : ∃ a xs, v = .ref a ∧ SqT K H a xs ∧ TpAll K H xs ds := by
  cases h with
  | tup h a => exact ⟨_, _, rfl, h, a⟩
theorem TpAll.ints {K : PySem.W.Frag} {H : Hp} : ∀ {ns : List Int} {vs : List V}, TpAll K H vs (ns.map PyData.int) → vs = ns.map V.int
  | [], _, h => by cases h; rfl
  | n :: ns, _, h => by
    cases h with
    | cons a t => rw [List.map_cons, Tp.int_inv a, TpAll.ints t]
theorem tpAll_ints {K : PySem.W.Frag} {H : Hp} : ∀ ns : List Int, TpAll K H (ns.map V.int) (ns.map PyData.int)
  | [] => .nil
  | n :: ns => .cons (.int n) (tpAll_ints ns)
/-- a tuple of ints -/
abbrev dI (ns : List Int) : PyData := .tuple (ns.map PyData.int)
theorem tpI {K : PySem.W.Frag} {H : Hp} {a : Addr} {ns : List Int} (h : SqT K H a (ns.map V.int)) : Tp K H (.ref a) (dI ns) := .tup h (tpAll_ints ns)
theorem tpI_inv {K : PySem.W.Frag} {H : Hp} {v : V} {ns : List Int} (h : Tp K H v (dI ns)) : ∃ a, v = .ref a ∧ SqT K H a (ns.map V.int) := by
  obtain ⟨a, xs, rfl, h1, h2⟩ := h.tup_inv
  rw [TpAll.ints h2] at h1
  exact ⟨a, rfl, h1⟩
/-- a list of such data -/
def Lp (K : PySem.W.Frag) (H : Hp) (v : V) (ds : List PyData) : Prop := ∃ a xs, v = .ref a ∧ SqL K H a xs ∧ TpAll K H xs ds
theorem Lp.same {K : PySem.W.Frag} {H H' : Hp} {v : V} {ds : List PyData} (h : Lp K H v ds) (s : Same H H') : Lp K H' v ds := by
  obtain ⟨a, xs, e, h1, h2⟩ := h
  exact ⟨a, xs, e, s.seq h1, h2.same s⟩
theorem Lp.dp {K : PySem.W.Frag} {H : Hp} {v : V} {ds : List PyData} (h : Lp K H v ds) : Dp K H v (.list ds) := by
  obtain ⟨a, xs, rfl, h1, h2⟩ := h
  exact .lst h1 h2.dp
/-! what is walked, in general: while G stands J yields at turn i the i-th of ds, as F says -/
structure Src {α : Type} (J : It) (G : Hp → Prop) (ds : List α) (F : α → V → Hp → Prop) : Prop where
  go : ∀ i H, G H → i < ds.length → J.go i H
  stop : ∀ H, G H → J.stop ds.length H
  yld : ∀ (i : Nat) (d : α) (x : V) (H H' : Hp), G H → ds[i]? = some d → J.yld i H x H' → Same H H' ∧ F d x H'
theorem same_eq {H H' : Hp} (e : H' = H) : Same H H' := by rw [e]; exact Same.refl _
theorem Src.list {K : PySem.W.Frag} {a : Addr} {xs : List V} : Src (Itl K a) (fun H => SqL K H a xs) xs (fun d x _ => x = d) where
  go := fun i H h hi => ⟨xs, xs[i], h, by rw [List.getElem?_eq_getElem hi]⟩
  stop := fun H h => ⟨xs, h, Nat.le_refl _⟩
  yld := fun i d x H H' h e y => ⟨same_eq y.1, Option.some.inj ((y.2 _ h).symm.trans e)⟩
theorem Src.tup {K : PySem.W.Frag} {a : Addr} {xs : List V} : Src (Itt K a) (fun H => SqT K H a xs) xs (fun d x _ => x = d) where
  go := fun i H h hi => ⟨xs, xs[i], h, by rw [List.getElem?_eq_getElem hi]⟩
  stop := fun H h => ⟨xs, h, Nat.le_refl _⟩
  yld := fun i d x H H' h e y => ⟨same_eq y.1, Option.some.inj ((y.2 _ h).symm.trans e)⟩
theorem Src.range {lo : Int} {n : Nat} : Src (Itr lo n) (fun _ => True) (List.range n) (fun i x _ => x = .int (lo + (i : Nat))) where
  go := fun i H _ hi => by rw [List.length_range] at hi; exact hi
  stop := fun H _ => by rw [List.length_range]; exact Nat.le_refl n
  yld := fun i d x H H' _ e y => by
    obtain ⟨h1, h2⟩ := List.getElem?_eq_some_iff.mp e
    rw [List.getElem_range] at h2
    exact ⟨same_eq y.1, by rw [← h2]; exact y.2⟩
theorem Src.rangeC {lo c : Int} {n : Nat} : Src (Itc lo c n) (fun _ => True) (List.range n) (fun i x _ => x = .int (lo + (i : Nat) * c)) where
  go := fun i H _ hi => by rw [List.length_range] at hi; exact hi
  stop := fun H _ => by rw [List.length_range]; exact Nat.le_refl n
  yld := fun i d x H H' _ e y => by
    obtain ⟨h1, h2⟩ := List.getElem?_eq_some_iff.mp e
    rw [List.getElem_range] at h2
    exact ⟨same_eq y.1, by rw [← h2]; exact y.2⟩
theorem Src.items {d : Addr} {o : Obj} {kvs : List (Key × V)} : Src (Iti d o kvs) (fun H => H d = some (.frz o (.dK kvs))) kvs (fun q x H => ∃ T, x = .ref T ∧ H T = some (.tup [kV q.1, q.2])) where
  go := fun i H h hi => ⟨h, hi⟩
  stop := fun H h => ⟨h, Nat.le_refl _⟩
  yld := fun i q x H H' h e y => by
    obtain ⟨T, k, v, h1, h2, h3, rfl⟩ := y
    rw [e] at h1
    cases h1
    exact ⟨same_new h3, T, h2, upd_same⟩
theorem Src.keys {d : Addr} {o : Obj} {kvs : List (Key × V)} : Src (Itk d o kvs) (fun H => H d = some (.frz o (.dK kvs))) kvs (fun q x _ => x = kV q.1) where
  go := fun i H h hi => ⟨h, hi⟩
  stop := fun H h => ⟨h, Nat.le_refl _⟩
  yld := fun i q x H H' h e y => by
    obtain ⟨h1, k, v, h2, h3⟩ := y
    rw [e] at h2
    cases h2
    exact ⟨same_eq h1, h3⟩
theorem range_get {n i j : Nat} (h : (List.range n)[i]? = some j) : i < n ∧ j = i := by
  obtain ⟨h1, h2⟩ := List.getElem?_eq_some_iff.mp h
  rw [List.getElem_range] at h2
  rw [List.length_range] at h1
  exact ⟨h1, h2.symm⟩
theorem Src.enum {K : PySem.W.Frag} {a : Addr} {xs : List V} : Src (Ite K a) (fun H => SqL K H a xs) (List.range xs.length) (fun i v H => ∃ T x, v = .ref T ∧ xs[i]? = some x ∧ H T = some (.tup [.int (i : Nat), x])) where
  go := fun i H h hi => by rw [List.length_range] at hi; exact ⟨xs, xs[i], h, by rw [List.getElem?_eq_getElem hi]⟩
  stop := fun H h => ⟨xs, h, by rw [List.length_range]; exact Nat.le_refl _⟩
  yld := fun i q x H H' h e y => by
    obtain ⟨T, z, h1, h2, rfl, h4⟩ := y
    obtain ⟨e1, rfl⟩ := range_get e
    exact ⟨same_new h2, T, z, h1, h4 _ h, upd_same⟩
theorem Src.zip {K : PySem.W.Frag} {a b : Addr} {xs ys : List V} : Src (Itz K a b) (fun H => SqL K H a xs ∧ SqL K H b ys) (xs.zip ys) (fun q x H => ∃ T, x = .ref T ∧ H T = some (.tup [q.1, q.2])) where
  go := fun i H h hi => by
    rw [List.length_zip] at hi
    exact ⟨xs, ys, xs[i]'(by omega), ys[i]'(by omega), h.1, h.2, by rw [List.getElem?_eq_getElem], by rw [List.getElem?_eq_getElem]⟩
  stop := fun H h => ⟨xs, ys, h.1, h.2, by rw [List.length_zip]; omega⟩
  yld := fun i q x H H' h e y => by
    obtain ⟨T, u, v, h1, h2, rfl, h4, h5⟩ := y
    rw [List.getElem?_zip_eq_some] at e
    have h6 := h4 _ h.1
    have h7 := h5 _ h.2
    rw [e.1] at h6
    rw [e.2] at h7
    cases h6
    cases h7
    exact ⟨same_new h2, T, h1, upd_same⟩
/-- a for loop over such: Pv by the turn, the slots, the heap -/
theorem for_src {α : Type} {J : It} {G : Hp → Prop} {ds : List α} {F : α → V → Hp → Prop} (S : Src J G ds F) {g : TG} {tb : TS} {D : Ends} {σ : L2.St} {H : Hp} (Pv : Nat → L2.St → Hp → Prop) (h0 : Pv 0 σ H) (hG : ∀ i σ H, i ≤ ds.length → Pv i σ H → G H)
    (hs : ∀ (i : Nat) (d : α) (x : V) (σ : L2.St) (H H' : Hp), ds[i]? = some d → Pv i σ H → Same H H' → F d x H' → g x σ H' fun σ2 H2 => tb { D with nx := Pv (i + 1), ct := Pv (i + 1), bk := D.nx } σ2 H2) (hd : ∀ σ H, Pv ds.length σ H → D.nx σ H) :
    ∃ W : Nat → Nat → L2.St → Hp → Prop, (∃ m, W 0 m σ H) ∧ ∀ i m σ H, W i m σ H →
      (J.stop i H ∧ D.nx σ H) ∨ (J.go i H ∧ ∃ N : L2.St → Hp → Prop, (∀ σ' H', N σ' H' → ∃ m', m' < m ∧ W (i + 1) m' σ' H') ∧ ∀ x H', J.yld i H x H' → g x σ H' fun σ2 H2 => tb { D with nx := N, ct := N, bk := D.nx } σ2 H2) := by
  refine ⟨fun i m σ H => i ≤ ds.length ∧ m = ds.length - i ∧ Pv i σ H, ⟨_, Nat.zero_le _, rfl, h0⟩, ?_⟩
  rintro i m σ H ⟨hi, rfl, hP⟩
  have g0 := hG i σ H hi hP
  by_cases e : i = ds.length
  · subst e
    exact .inl ⟨S.stop H g0, hd σ H hP⟩
  · have hlt : i < ds.length := by omega
    refine .inr ⟨S.go i H g0 hlt, Pv (i + 1), fun σ' H' h => ⟨ds.length - (i + 1), by omega, by omega, rfl, h⟩, fun x H' y => ?_⟩
    have ed : ds[i]? = some ds[i] := List.getElem?_eq_getElem hlt
    obtain ⟨s1, f1⟩ := S.yld i _ x H H' g0 ed y
    exact hs i _ x σ H H' ed hP s1 f1
theorem paired_len {α β : Type} {F : α → β → Prop} : ∀ {l : List α} {m : List β}, Paired F l m → l.length = m.length
  | _, _, .nil => rfl
  | _, _, .cons _ t => congrArg (· + 1) (paired_len t)
theorem filter_take_succ {α : Type} {p : α → Bool} {ds : List α} {i : Nat} {d : α} (h : ds[i]? = some d) : (ds.take (i + 1)).filter p = (ds.take i).filter p ++ (if p d = true then [d] else []) := by
  rw [List.take_succ, h, List.filter_append]
  congr 1
  show List.filter p [d] = _
  rw [List.filter_cons]
  split <;> rfl
/-- a list comprehension over such: the new list's items are as R says of those of ds that p keeps -/
theorem lc_src {α : Type} {J : It} {G : Hp → Prop} {ds : List α} {F : α → V → Hp → Prop} (S : Src J G ds F) {K : PySem.W.Frag} {g : TG} {tt : TT} {te : TE} {vs : List Nat} {σ : L2.St} {H : Hp} {D : Addr} {Qd : Hp → Prop} (hD : H D = none) (R : α → V → Hp → Prop) (p : α → Bool) (hG : ∀ H', Same H H' → G H')
    (mR : ∀ (d : α) (y : V) (H1 H2 : Hp), Stay K H1 H2 → R d y H1 → R d y H2) (hz : ds.length ≤ 1000000)
    (step : ∀ (i : Nat) (d : α) (x : V) (H1 : Hp) (Q1 : VK) (Q0 : Hp → Prop), Same H H1 → ds[i]? = some d → F d x H1 → (p d = true → ∀ y H4, Same H1 H4 → R d y H4 → Q1 y H4) → (p d = false → ∀ H3, Same H1 H3 → Q0 H3) →
      g x (wipe σ vs) H1 fun σ2 H2 => wipe σ2 vs = wipe σ vs ∧ tt σ2 H2 fun b H3 => if b = true then te σ2 H3 Q1 else Q0 H3)
    (k : ∀ H' ys, Same H H' → H' D = some (.lst ys) → Paired (fun d y => R d y H') (ds.filter p) ys → Qd H') :
    ∃ W : Nat → Nat → Hp → Prop, (∃ m, W 0 m (upd H D (.lst []))) ∧ ∀ i m H, W i m H →
      (J.stop i H ∧ Qd H) ∨ (J.go i H ∧ ∃ Nx : Hp → Prop, (∀ H', Nx H' → ∃ m', m' < m ∧ W (i + 1) m' H') ∧ ∀ x H', J.yld i H x H' → g x (wipe σ vs) H' fun σ2 H2 => wipe σ2 vs = wipe σ vs ∧ tt σ2 H2 fun b H3 =>
        if b = true then te σ2 H3 fun y H4 => ∃ acc, H4 D = some (.lst acc) ∧ acc.length < sizeLine ∧ Nx (upd H4 D (.lst (acc ++ [y]))) else Nx H3) := by
  let Pv : Nat → Hp → Prop := fun i H' => Same H H' ∧ ∃ ys, H' D = some (.lst ys) ∧ Paired (fun d y => R d y H') ((ds.take i).filter p) ys
  refine ⟨fun i m H' => i ≤ ds.length ∧ m = ds.length - i ∧ Pv i H', ⟨_, Nat.zero_le _, rfl, same_new hD, [], upd_same, .nil⟩, ?_⟩
  rintro i m H' ⟨hi, rfl, s, ys, hy, hp⟩
  have g0 := hG H' s
  have hpl : ys.length ≤ 1000000 := by
    have e : ((ds.take i).filter p).length = ys.length := paired_len hp
    have := List.length_filter_le p (ds.take i)
    rw [List.length_take] at this
    omega
  by_cases e : i = ds.length
  · subst e
    refine .inl ⟨S.stop H' g0, k H' ys s hy ?_⟩
    rw [List.take_length] at hp
    exact hp
  · have hlt : i < ds.length := by omega
    refine .inr ⟨S.go i H' g0 hlt, Pv (i + 1), fun H2 h => ⟨ds.length - (i + 1), by omega, by omega, rfl, h⟩, fun x H1 y => ?_⟩
    have ed : ds[i]? = some ds[i] := List.getElem?_eq_getElem hlt
    obtain ⟨s1, f1⟩ := S.yld i _ x H' H1 g0 ed y
    refine step i _ x H1 _ _ (s.trans s1) ed f1 (fun hk y4 H4 s4 r4 => ?_) (fun hk H3 s3 => ?_)
    · have hD4 : H4 D = some (.lst ys) := s4 _ _ (s1 _ _ hy)
      refine ⟨ys, hD4, Nat.lt_of_le_of_lt hpl (by decide), same_put ((s.trans s1).trans s4) hD, ys ++ [y4], upd_same, ?_⟩
      rw [filter_take_succ ed, if_pos hk]
      have st : Stay K H4 (upd H4 D (.lst (ys ++ [y4]))) := .lst hD4
      refine Paired.snoc (L2.Paired.mapP hp fun d z h => mR d z _ _ ((Stay.same (s1.trans s4)).trans st) h) (mR _ _ _ _ st r4)
    · refine ⟨(s.trans s1).trans s3, ys, s3 _ _ (s1 _ _ hy), ?_⟩
      rw [filter_take_succ ed, if_neg (by simp [hk]), List.append_nil]
      exact L2.Paired.mapP hp fun d z h => mR d z _ _ (Stay.same (s1.trans s3)) h
/-- the items are data -/
theorem paired_tp {α : Type} {K : PySem.W.Frag} {H : Hp} {f : α → PyData} : ∀ {l : List α} {ys : List V}, Paired (fun d y => Tp K H y (f d)) l ys → TpAll K H ys (l.map f)
  | _, _, .nil => .nil
  | _, _, .cons h t => .cons h (paired_tp t)
theorem paired_val {α : Type} {f : α → V} : ∀ {l : List α} {ys : List V}, Paired (fun d y => y = f d) l ys → ys = l.map f
  | _, _, .nil => rfl
  | _, _, .cons h t => by rw [List.map_cons, h, paired_val t]
/-- a tuple, a list of typed data -/
theorem TpAll.nth {α : Type} {K : PySem.W.Frag} {H : Hp} {f : α → PyData} {l : List α} {vs : List V} {i : Nat} {d : α} (h : TpAll K H vs (l.map f)) (e : l[i]? = some d) : ∃ v, vs[i]? = some v ∧ Tp K H v (f d) :=
  h.at (by rw [List.getElem?_map, e]; rfl)
theorem Src.tp {α : Type} {K : PySem.W.Frag} {a : Addr} {xs : List V} {f : α → PyData} {l : List α} : Src (Itt K a) (fun H => SqT K H a xs ∧ TpAll K H xs (l.map f)) l (fun d x H => Tp K H x (f d)) where
  go := fun i H h hi => by
    obtain ⟨v, e, _⟩ := h.2.nth (List.getElem?_eq_getElem hi)
    exact ⟨xs, v, h.1, e⟩
  stop := fun H h => ⟨xs, h.1, by rw [h.2.length, List.length_map]; exact Nat.le_refl _⟩
  yld := fun i d x H H' h e y => by
    obtain ⟨v, e1, t⟩ := h.2.nth e
    have e2 := y.2 _ h.1
    rw [e1] at e2
    cases e2
    exact ⟨same_eq y.1, by rw [y.1]; exact t⟩
theorem Src.lp {α : Type} {K : PySem.W.Frag} {a : Addr} {xs : List V} {f : α → PyData} {l : List α} : Src (Itl K a) (fun H => SqL K H a xs ∧ TpAll K H xs (l.map f)) l (fun d x H => Tp K H x (f d)) where
  go := fun i H h hi => by
    obtain ⟨v, e, _⟩ := h.2.nth (List.getElem?_eq_getElem hi)
    exact ⟨xs, v, h.1, e⟩
  stop := fun H h => ⟨xs, h.1, by rw [h.2.length, List.length_map]; exact Nat.le_refl _⟩
  yld := fun i d x H H' h e y => by
    obtain ⟨v, e1, t⟩ := h.2.nth e
    have e2 := y.2 _ h.1
    rw [e1] at e2
    cases e2
    exact ⟨same_eq y.1, by rw [y.1]; exact t⟩
theorem tpL_inv {α : Type} {K : PySem.W.Frag} {H : Hp} {v : V} {f : α → PyData} {l : List α} (h : Tp K H v (.tuple (l.map f))) : ∃ a xs, v = .ref a ∧ SqT K H a xs ∧ TpAll K H xs (l.map f) ∧ xs.length = l.length := by
  obtain ⟨a, xs, rfl, h1, h2⟩ := h.tup_inv
  exact ⟨a, xs, rfl, h1, h2, by rw [h2.length, List.length_map]⟩
/-! rules with the fragment told (within a comprehension) -/
theorem pg_tupK {X : Cx} {K : PySem.W.Frag} {es : List Expr} {k : Nat} {t : TGs} {n : Nat} {pos : Pos} (hk : X.K = K) (hc : X.calm = true) (h : PGs X es t)
    (hn : (assignEach es X.env).length = n := by rfl) (hst : (assignEach es X.env).findIdx? (·.1) = none := by rfl) : PG X (.Tuple es k pos) (gTup K n t) := by
  subst hk
  exact pg_tup hc h hn hst
theorem ix_tupK {X : Cx} {K : PySem.W.Frag} (hk : X.K = K) : IxR X (rIxT K) := by
  subst hk
  exact ix_tup
theorem ix_listK {X : Cx} {K : PySem.W.Frag} (hk : X.K = K) : IxR X (rIxL K) := by
  subst hk
  exact ix_list
end Nw
namespace Nw
open PySem PySem.Spec PyProof.Rows L2
/-! sorted of whatever collect brings -/
section
variable {prog : Program} {w : World} {A : Around} {E : Value → Shared → Prop} {s : Shared}
theorem sorted_any {v : Value} {ltv : Heap → Value → Value → Bool} {Q : Value → Shared → Prop} {G : Heap → List Value → Prop} (O : ∀ h', SrtO.Swo (ltv h'))
    (hc : ∀ R : List Value → Shared → Prop, (∀ (h' : Heap) (tk : Nat) (us : List Value), (∀ b o, s.heap.get? b = some o → h'.get? b = some o) → G h' us → R us { s with heap := h', toks := tk }) → wpAny (model prog w) A.in1 (collect v) R E s)
    (hz : ∀ h' us, G h' us → us.length ≤ sizeLine)
    (hS : ∀ (h' : Heap) (tk : Nat) (us : List Value), (∀ b o, s.heap.get? b = some o → h'.get? b = some o) → G h' us → 2 ≤ us.length → SrtO.SortableO prog w A.in1.in1 { s with heap := h'.push (seqObj "list" us.toArray 0), toks := tk } h'.objs.size us (ltv h'))
    (h : ∀ (h' : Heap) (tk : Nat) (us out : List Value) (h2 : Heap), (∀ b o, s.heap.get? b = some o → h'.get? b = some o) → G h' us → SrtO.Srtd (ltv h') out → SrtO.Stb (ltv h') out us → (∀ b o, h'.get? b = some o → h2.get? b = some o) →
      (∃ n, h2.get? h'.objs.size = some (seqObj "list" out.toArray n)) → Q (.ref h'.objs.size) { s with heap := h2, toks := tk }) :
    wpAny (model prog w) A (call (.builtin "sorted") [v]) Q E s := by
  refine Calls.call_function_entry PyProof.Rows.kind_sorted PyProof.Rows.plain_sorted PyProof.Rows.entry_sorted (PyProof.Rows.args_sorted1 _) ?_
  unfold Builtin.«sorted»
  refine wpAny_bind (m := checkCount "sorted" 1 1 _) (wpAny_pure ?_)
  refine wpAny_bind (hc _ fun h' tk us hk hG => ?_)
  have hl := hz h' us hG
  refine wpAny_bind (wpAny_newList ?_ hl)
  have hoL : (h'.push (seqObj "list" us.toArray 0)).get? h'.objs.size = some (seqObj "list" us.toArray 0) := Heap.get?_push_size _ rfl
  show wpAny _ _ _ _ _ { s with heap := h'.push (seqObj "list" us.toArray 0), toks := tk }
  refine wpAny_bind (wpAny_holding (wpAny_call_entry PyProof.Rows.slot_list_sort ⟨_, hoL, rfl⟩ PyProof.Rows.entry_list_sort
    (SrtO.list_sort_ord (s := { s with heap := h'.push (seqObj "list" us.toArray 0), toks := tk }) (O h') hoL hl (fun h2 => hS h' tk us hk hG h2) fun out g1 g2 => ⟨_, rfl, ?_⟩) (PyProof.Rows.args_list_sort _)))
  refine wpAny_pure ⟨_, rfl, h h' tk us out _ hk hG g1 g2 (fun b u e => ?_) (PyProof.Rows.sortedHeap_at (vs := us) (out := out.toArray) hoL)⟩
  have hb : b < h'.objs.size := Heap.lt_size e
  rw [PyProof.Rows.sortedHeap_old (Nat.ne_of_lt hb) (by rw [Heap.size_push]; exact Nat.lt_succ_of_lt hb)]
  exact Heap.get?_push_of_some _ e
end
section
variable {X : Cx}
/-- sorted(t) of a tuple of ints -/
def rSortedTI (K : PySem.W.Frag) : List V → Hp → VK → Prop := fun vs H Q => ∃ (a : Addr) (ns : List Int), vs = [V.ref a] ∧ SqT K H a (ns.map V.int) ∧
  ∀ (ns' : List Int) (p : Addr), ns'.Perm ns → ns'.Pairwise (· ≤ ·) → H p = none → Q (.ref p) (upd H p (.lst (ns'.map V.int)))
theorem cr_sortedTI : CallR X (.builtin "sorted") (rSortedTI X.K) := by
  intro pins s σ H vs us Q I r h
  obtain ⟨a, ns, rfl, hs, q⟩ := h
  obtain ⟨its, rv, hit, hz⟩ := I.tuple hs
  obtain ⟨o, ho, hc, n, hd⟩ := hit
  rw [Vals.ref1 r]
  have hi := rv.ints
  have hsz : its.length ≤ sizeLine := by rw [← rv.length]; exact hz
  refine sorted_any (G := fun _ us => us = its) (ltv := fun _ => SrtO.ltIv) (fun _ => SrtO.swo_int) (fun R k => ?_) (fun h' us e => by rw [e]; exact hsz) (fun h' tk us _ e h2 => ?_) (fun h' tk us out h2 hk e h3 h4 hk2 hn => ?_)
  · refine wpAny_collect_seq a (.inr rfl) ho hc hd (fun h' hk => ?_) (by rw [List.size_toArray]; exact hsz)
    exact k h' s.toks _ hk rfl
  · subst e
    exact SrtO.ints_sortable hi h2
  · subst e
    obtain ⟨k1, k2, k3⟩ := SrtO.ints_out hi h3 h4
    obtain ⟨ep, he'⟩ := hn
    have hlen : ((out.map SrtO.iv).map V.int).length ≤ sizeLine := by
      rw [List.length_map, k2.length_eq]
      rw [List.length_map] at hz
      exact hz
    have I1 : Inv X pins σ H { s with heap := h', toks := tk } := I.kept hk
    exact ⟨.ref _, upd H h'.objs.size (.lst ((out.map SrtO.iv).map V.int)), I1.laid (t' := tk) hk2 (Nat.le_refl _) ⟨hlen, out, ep, vals_of_ints k1, he'⟩, rfl, q _ _ k2 k3 (I1.hok.fresh (Nat.le_refl _))⟩
end
/-! len(set(t)) of a tuple of ints, no two alike -/
theorem nodup_len : ∀ {l m : List Int}, l.Nodup → (∀ x ∈ l, x ∈ m) → l.length ≤ m.length
  | [], _, _, _ => Nat.zero_le _
  | x :: l, m, h, s => by
    obtain ⟨h1, h2⟩ := List.nodup_cons.mp h
    have hm : x ∈ m := s x (List.mem_cons_self ..)
    have ih := nodup_len (m := m.erase x) h2 (fun y hy => by
      refine (List.mem_erase_of_ne ?_).mpr (s y (List.mem_cons_of_mem _ hy))
      intro e
      exact h1 (e ▸ hy))
    rw [List.length_erase_of_mem hm] at ih
    have : 0 < m.length := List.length_pos_of_mem hm
    rw [List.length_cons]
    omega
def tLenSetT (K : PySem.W.Frag) (ta : TE) : TE := fun σ H Q => ta σ H fun x H1 => ∃ (l : Addr) (ns : List Int), x = .ref l ∧ SqT K H1 l (ns.map V.int) ∧ ns.Nodup ∧ ns.length ≤ 4000 ∧ Q (.int (ns.length : Nat)) H1
theorem pe_lenSetT {X : Cx} {a : Expr} {ta : TE} {p p2 q pos : Pos} (hg : Gl X "len") (hm : X.mg "len" = none) (hg2 : Gl X "set") (hm2 : X.mg "set" = none) (ha : PE X a ta) (hc : X.calm = true := by rfl)
    (na : starEach [a] X.env = (false, eval a X.env) :: starEach [] X.env := by rfl) : PE X (.Call (.Name "len" p) [.Call (.Name "set" p2) [a] [] q] [] pos) (tLenSetT X.K ta) := by
  refine ⟨fun pins s σ H Q I h => ?_⟩
  refine Call_ (ld_blt I hg hm boot_len ?_)
  refine PyProof.Rows.callWith_builtin1 (PyProof.Rows.args_cons ?_ rfl) rfl rfl
  refine Call_ (ld_blt I hg2 hm2 boot_set ?_)
  refine PyProof.Rows.callWith_type1 (PyProof.Rows.args_cons (thn (ha.run pins s σ H _ I h) fun v s1 ⟨x, H1, I1, r1, q1⟩ => PyProof.Rows.args_nil ?_) na) na rfl
  obtain ⟨l, ns, rfl, hq, hnd, hl, q1⟩ := q1
  cases r1
  obtain ⟨its, r, pl, hz⟩ := I1.tuple hq
  obtain ⟨o0, ho0, hc0, n0, hd0⟩ := pl
  refine call_set_tupI ns (I1.ok.hd hc) ⟨o0, ho0, hc0, n0, hd0⟩ (by simpa using RZ.intsAre_vals r) (by unfold scanBound; omega) fun h' tk c hS hc' hk => ?_
  refine PyProof.Rows.args_nil ?_
  obtain ⟨o, es, ep, t, ho, hex, hd, _, hnd2, hiff, _, hf, hn, _, _⟩ := hS
  have I2 : Inv X pins σ H1 { s1 with heap := h', toks := tk } := I1.kept fun b o e => hk b o e
  have hlen : ns.length ≤ (es.toList.map keyOf).length := nodup_len hnd fun x hx => (hiff x).mp (by simpa using hx)
  rw [List.length_map, Array.length_toList (xs := es)] at hlen
  have e : es.size = ns.length := by omega
  exact call_len_set ho hex hd hf (by rw [e]; omega) ⟨.int ns.length, H1, I2.tok _, ⟨_, by rw [e]⟩, q1⟩
end Nw
namespace Nw
open PySem PySem.Spec PyProof.Rows L2 Nd
/-! tuples whose own object is told -/
/-- a tuple object with no dict -/
def Fz (H : Hp) (v : V) : Prop := ∃ a o xs, v = .ref a ∧ o.dict = none ∧ H a = some (.frz o (.tup xs))
theorem Fz.same {H H' : Hp} {v : V} (h : Fz H v) (s : Same H H') : Fz H' v := by
  obtain ⟨a, o, xs, e, d, h⟩ := h
  exact ⟨a, o, xs, e, d, s _ _ h⟩
section
variable {X : Cx}
/-- tuple(xs) of a list -/
def rTupZ (K : PySem.W.Frag) : List V → Hp → VK → Prop := fun xs H Q => ∃ p ys, xs = [.ref p] ∧ SqL K H p ys ∧ ∀ l o, H l = none → o.dict = none → Q (.ref l) (upd H l (.frz o (.tup ys)))
theorem call_tupZ : CallR X (.type "tuple") (rTupZ X.K) := by
  intro pins s σ H xs us Q I r h
  obtain ⟨p, ys, rfl, hq, q⟩ := h
  obtain ⟨u, rfl, rx⟩ := vals1 r
  cases rx
  obtain ⟨its, r', pl, hz⟩ := I.list hq
  have hlen := r'.length
  refine call_tuple_list pl.isList (fun h' kp => ?_) (by simp only [List.size_toArray] <;> omega)
  have I1 : Inv X pins σ H { s with heap := h' } := I.kept (t' := s.toks) kp
  have I2 : Inv X pins σ (upd H h'.objs.size (.frz { cls := .type "tuple", data := .seq its.toArray } (.tup ys))) { s with heap := h'.push { cls := .type "tuple", data := .seq its.toArray } } :=
    I1.laid (t' := s.toks) (fun b o e => Heap.get?_push_of_some _ e) (Nat.le_refl _) ⟨Heap.get?_push_size _ rfl, hz, its, r', IsTup.new _ _⟩
  exact ⟨.ref h'.objs.size, _, I2, rfl, q _ _ (I1.hok.fresh (Nat.le_refl _)) rfl⟩
/-- (..), the object told -/
def tTupZ (t : TA) : TE := fun σ H Q => t σ H fun xs H1 => xs.length ≤ sizeLine ∧ ∀ p o, H1 p = none → o.dict = none → Q (.ref p) (upd H1 p (.frz o (.tup xs)))
theorem pe_tupZ {es : List Expr} {t : TA} {x1 : Nat} {pos : Pos} (h : PA X es t) : PE X (.Tuple es x1 pos) (tTupZ t) := by
  refine ⟨fun pins s σ H Q I hq => ?_⟩
  refine wpAny_Tuple_spliced (thn (h.run pos pins s σ H _ I hq) fun us s1 ⟨xs, H1, I1, r, z, q⟩ => ⟨by rw [← r.length]; exact z, ?_⟩)
  have hf : H1 s1.heap.objs.size = none := I1.hok.fresh (Nat.le_refl _)
  refine ⟨.ref s1.heap.objs.size, upd H1 s1.heap.objs.size (.frz { cls := .type "tuple", data := .seq us.toArray } (.tup xs)), I1.laid (t' := s1.toks) (fun b u e => Heap.get?_push_of_some _ e) (Nat.le_refl _) ?_, rfl, q _ _ hf rfl⟩
  exact ⟨Heap.get?_push_size _ rfl, z, us, r, ⟨_, Heap.get?_push_size _ rfl, rfl, _, rfl⟩⟩
/-- tuple(t) -/
def rTupS (K : PySem.W.Frag) : List V → Hp → VK → Prop := fun xs H Q => ∃ p ys, xs = [.ref p] ∧ SqT K H p ys ∧ Q (.ref p) H
theorem call_tupS : CallR X (.type "tuple") (rTupS X.K) := by
  intro pins s σ H xs us Q I r h
  obtain ⟨p, ys, rfl, hq, q⟩ := h
  obtain ⟨u, rfl, rx⟩ := vals1 r
  cases rx
  obtain ⟨its, r', pl, hz⟩ := I.tuple hq
  exact call_tuple_same pl ⟨.ref p, H, I, rfl, q⟩
theorem pairs_of2 {pins : List (Addr × Obj)} {σ : L2.St} {H : Hp} {s : Shared} (I : Inv X pins σ H s) : ∀ {ps : List Addr} {kvs : List (Key × V)}, Paired (fun p kv => SqT X.K H p [kV kv.1, kv.2]) ps kvs →
    ∃ (prs : List (Key × Value)) (pr : List (Value × Value)), KV kvs prs ∧ prs.length = ps.length ∧ pr.length = ps.length ∧ ∀ (j : Nat) (k v : Value), pr[j]? = some (k, v) → ∃ (b : Addr) (key : Key), ps[j]? = some b ∧ IsTup s.heap b #[k, v] ∧ prs[j]? = some (key, v) ∧ (mixKind X.prog X.w).is key k = true
  | _, _, .nil => ⟨[], [], .nil, rfl, rfl, fun j k v e => by simp at e⟩
  | _, _, .cons (a := p) (b := kv) h t => by
    obtain ⟨prs, pr, r, hl, hl2, hp⟩ := pairs_of2 I t
    obtain ⟨its, rv, ht, _⟩ := I.tuple h
    obtain ⟨u, y, ei, ru, ry⟩ := vals2 rv
    subst ei
    refine ⟨(kv.1, y) :: prs, (u, y) :: pr, .cons ⟨rfl, ry⟩ r, by rw [List.length_cons, List.length_cons, hl], by rw [List.length_cons, List.length_cons, hl2], fun j k v e => ?_⟩
    cases j with
    | zero =>
      have e' : (u, y) = (k, v) := Option.some.inj e
      cases e'
      exact ⟨p, kv.1, rfl, ht, rfl, kV_is (P := X.prog) (w := X.w) ru⟩
    | succ j => exact hp j k v e
/-- dict(t) of such a tuple of pairs -/
def rDictZ (K : PySem.W.Frag) : List V → Hp → VK → Prop := fun xs H Q => ∃ (a : Addr) (ob : Obj) (ps : List Addr) (kvs : List (Key × V)), xs = [.ref a] ∧ ob.dict = none ∧ H a = some (.frz ob (.tup (ps.map V.ref))) ∧ Paired (fun p kv => SqT K H p [kV kv.1, kv.2]) ps kvs ∧
  ∀ p, H p = none → Q (.ref p) (upd H p (.dK (mergeK [] kvs)))
theorem call_dictZ (hcalm : X.calm = true) : CallR X (.type "dict") (rDictZ X.K) := by
  intro pins s σ H xs us Q I r q
  obtain ⟨a, ob, ps, kvs, rfl, hd, ha, hp, q⟩ := q
  obtain ⟨u, eu, rx⟩ := vals1 r
  subst eu
  cases rx
  obtain ⟨hob, hz, its, rv, o2, ho2, hc2, n, hdat⟩ := I.hok a _ ha
  have eo : o2 = ob := Option.some.inj (ho2.symm.trans hob)
  subst eo
  have ei := refs_at rv
  subst ei
  rw [List.length_map] at hz
  obtain ⟨prs, pr, rel, l1, l2, hpr⟩ := pairs_of2 I hp
  have hok : PlainSeq "tuple" s.heap a (ps.map Value.ref).toArray ∧ PairItems s.heap (ps.map Value.ref).toArray (fun j => ps.getD j 0) pr := by
    refine ⟨⟨o2, n, ho2, hc2, hd, hdat⟩, by simp [l2], fun j k v e => ?_⟩
    obtain ⟨b, key, e1, e2, _⟩ := hpr j k v e
    have eb : ps.getD j 0 = b := by rw [List.getD_eq_getElem?_getD, e1]; rfl
    exact ⟨by simp [e1], .inl (by dsimp only; rw [eb]; exact e2)⟩
  refine PySem.call_dict_pairs (knd := mixKind X.prog X.w) (kvs := prs) (PairArg.tuple a (ps.map Value.ref).toArray (fun j => ps.getD j 0) pr) (I.ok.hd hcalm) hok ⟨by omega, fun j k v e => ?_⟩ (by omega) fun h' tk hd' k => ?_
  · obtain ⟨b, key, _, _, e3, e4⟩ := hpr j k v e
    exact ⟨key, e3, e4⟩
  · have hm : (s.heap.objs.size == sysModules) = false := beq_eq_false_iff_ne.mpr (Nat.ne_of_gt I.big)
    have hlen : (mergeK [] kvs).length ≤ sizeLine := by
      refine Nat.le_trans (length_mergeK kvs []) ?_
      rw [List.length_nil, Nat.zero_add, rel.length, l1]
      exact hz
    exact ⟨.ref s.heap.objs.size, upd H s.heap.objs.size (.dK (mergeK [] kvs)), I.laid (t' := tk) (fun b o e => k b o (by simp) e) (Nat.le_refl _) (show ObjOk X.prog X.w _ _ _ (.dK (mergeK [] kvs)) from ⟨hlen, hm, merged [] prs, KV.merge rel .nil, hd'⟩), rfl, q _ (I.hok.fresh (Nat.le_refl _))⟩
/-! d.items() of a dict with keys by value, and sorted(..) of them -/
def rItemsK : V → List V → Hp → VK → Prop := fun x xs H Q => ∃ (a : Addr) (kvs : List (Key × V)), x = .ref a ∧ xs = [] ∧ H a = some (.dK kvs) ∧ ∀ p, H p = none → Q (.ref p) (upd H p (L2.DX.itemsO p a))
theorem mt_itemsK : MtR X "dict.items" rItemsK := by
  intro pins s σ H x xs v us Q I rx rxs h
  obtain ⟨a, kvs, rfl, rfl, ha, q⟩ := h
  cases rx
  cases rxs
  obtain ⟨z, hd, vs, kv, o, es, ep, ho, hx, hdat, _⟩ := dk_of I.hok ha
  refine DT.callItems (es := es) (ep := ep) hd ⟨o, ho, hx, hdat⟩ ?_
  have hf : H s.heap.objs.size = none := I.hok.fresh (Nat.le_refl _)
  exact ⟨.ref s.heap.objs.size, upd H s.heap.objs.size (L2.DX.itemsO s.heap.objs.size a), I.laid (t' := s.toks) (fun b u e => Heap.get?_push_of_some _ e) (Nat.le_refl _) (L2.DX.itemsO_ok (Heap.get?_push_size _ rfl)), rfl, q _ hf⟩
abbrev tabV (f : Int → V) (L : Tab) : List (Key × V) := L.map fun p => (Sum.inl p.1, f p.2)
def rSortIt2 : List V → Hp → VK → Prop := fun vs H Q => ∃ (p a : Addr) (L : Tab), vs = [.ref p] ∧ H p = some (L2.DX.itemsO p a) ∧ H a = some (.dK (tabV V.int L)) ∧
  ∀ (H' : Hp) (l : Addr) (as : List Addr) (L' : Tab), Same H H' → L'.Perm L → H' l = some (.lst (as.map V.ref)) → Paired (fun (d : Int × Int) a => H' a = some (.tup [.int d.1, .int d.2])) L' as → Q (.ref l) H'
def pairH (h : Heap) (v : Value) : Int × Int := match v with
  | .ref a => (match (h.get? a).map Obj.data with
    | some (Data.seq xs _) => (match xs.toList with
      | [.int x _, .int y _] => (x, y)
      | _ => (0, 0))
    | _ => (0, 0))
  | _ => (0, 0)
theorem pairH_eq {h : Heap} {a : Addr} {o : Obj} {x y : Int} {t u : Tok} {n : Nat} (e : h.get? a = some o) (d : o.data = .seq #[.int x t, .int y u] n) : pairH h (.ref a) = (x, y) := by
  unfold pairH
  simp only [e, Option.map_some, d]
theorem paired_two {α β : Type} {F : β → α → Prop} : ∀ (zs : List (α × β)), (∀ z ∈ zs, F z.2 z.1) → Paired F (zs.map (·.2)) (zs.map (·.1))
  | [], _ => .nil
  | z :: zs, h => .cons (h z (List.mem_cons_self ..)) (paired_two zs fun y hy => h y (List.mem_cons_of_mem _ hy))
theorem cr_sortedItems2 (hc : X.calm = true) : CallR X (.builtin "sorted") rSortIt2 := by
  intro pins s σ H xs us Q I r h
  obtain ⟨p, a, L, rfl, hp, ha, q⟩ := h
  obtain rfl := Vals.ref1 r
  have view : s.heap.IsItemsView p a := (show ObjOk X.prog X.w H s.heap p (L2.DX.itemsO p a) from I.hok p _ hp).1
  obtain ⟨z, hd, vs, kv, o, es, ep, ho, hx, hdat, _, hpr, _⟩ := dk_of I.hok ha
  have l1 : L.length = vs.length := by
    have := Paired.length kv
    rw [List.length_map] at this
    exact this
  have l2 : es.size = vs.length := by
    have := hpr.length
    rw [Array.length_toList] at this
    exact this
  rw [List.length_map] at z
  have hh : X.A.handled = none := I.ok.hd hc
  have ent : ∀ (j : Nat) (en : DictEntry), es[j]? = some en → ∃ (d : Int × Int) (t1 t2 : Tok), L[j]? = some d ∧ en.key = Value.int d.1 t1 ∧ en.val = Value.int d.2 t2 := by
    intro j en he
    have hj : j < es.size := (Array.getElem?_eq_some_iff.mp he).1
    have hjL : j < L.length := by omega
    obtain ⟨u, hu, ru⟩ := kv_get (i := j) (k := Sum.inl L[j].1) (v := V.int L[j].2) kv (by rw [List.getElem?_map, List.getElem?_eq_getElem hjL]; rfl)
    obtain ⟨g1, g2⟩ := hpr.get? (i := j) (e := en) (by rw [Array.getElem?_toList]; exact he) hu
    obtain ⟨t2, rfl⟩ := ru
    obtain ⟨t1, g3⟩ := keyIs_rel (k := Sum.inl L[j].1) (v := en.key) g1
    exact ⟨L[j], t1, t2, List.getElem?_eq_getElem hjL, g3, g2⟩
  have made : ∀ {h' : Heap} {as : List Addr}, as.length = es.size → DT.Made es s.heap.objs.size h' as → ∀ (j : Nat) (b : Addr), as[j]? = some b → ∃ (d : Int × Int) (t1 t2 : Tok), L[j]? = some d ∧ h'.get? b = some { cls := .type "tuple", data := .seq #[Value.int d.1 t1, Value.int d.2 t2] } := by
    intro h' as hl hG j b hj
    obtain ⟨en, he, hg⟩ := hG.pairs j b hj
    obtain ⟨d, t1, t2, h1, h2, h3⟩ := ent j en he
    exact ⟨d, t1, t2, h1, by rw [hg, h2, h3]⟩
  refine sorted_any (G := fun h' us => ∃ as : List Addr, us = as.map Value.ref ∧ s.heap.objs.size < h'.objs.size ∧ as.length = es.size ∧ DT.Made es s.heap.objs.size h' as) (ltv := fun h' v u => SrtO.lexB (pairH h' v) (pairH h' u)) (fun h' => SrtO.swo_lex _)
    (fun R k => ?_) (fun h' us => ?_) (fun h' tk us hk hg h2 => ?_) (fun h' tk us out h2 hk hg h3 h4 hk2 hn => ?_)
  · refine DT.collectI (es := es) (ep := ep) hh view ⟨o, ho, hx, hdat⟩ (by omega) fun h' tk as hk hlt hl hG => ?_
    exact k h' tk _ hk ⟨as, rfl, hlt, hl, hG⟩
  · rintro ⟨as, rfl, _, hl, _⟩
    rw [List.length_map]
    omega
  · obtain ⟨as, rfl, hlt, hl, hG⟩ := hg
    refine SrtO.pairs_sortableO (k := pairH h') (by omega) (fun v hv => ?_) (fun o e => ?_)
    · obtain ⟨b, hb, rfl⟩ := List.mem_map.mp hv
      obtain ⟨j, hj⟩ := List.mem_iff_getElem?.mp hb
      obtain ⟨d, t1, t2, _, hg⟩ := made hl hG j b hj
      rw [pairH_eq hg rfl]
      exact ⟨b, _, t1, t2, 0, rfl, Heap.get?_push_of_some _ hg, rfl, rfl⟩
    · have e' : some o = some (seqObj "list" (as.map Value.ref).toArray 0) := e.symm.trans (Heap.get?_push_size _ rfl)
      cases e'
      intro c
      exact absurd (Value.type.inj c) (by decide)
  · obtain ⟨as, rfl, hlt, hl, hG⟩ := hg
    have lak : as.length = L.length := by omega
    have nd : as.Nodup := List.Pairwise.imp (fun h => Nat.ne_of_lt h) hG.rise
    have pm := h4.perm
    obtain ⟨zs, pz, ez⟩ := perm_lift (fun z : Addr × Int × Int => Value.ref z.1) pm (as.zip L) (by
      rw [show (fun z : Addr × Int × Int => Value.ref z.1) = Value.ref ∘ Prod.fst from rfl, ← List.map_map, List.map_fst_zip (by omega)])
    have idx : ∀ z ∈ zs, ∃ j : Nat, as[j]? = some z.1 ∧ L[j]? = some z.2 := by
      intro z' hz'
      obtain ⟨j, hj⟩ := List.mem_iff_getElem?.mp (pz.mem_iff.mp hz')
      exact ⟨j, List.getElem?_zip_eq_some.mp hj⟩
    have hperm : (zs.map (·.2)).Perm L := by
      have e := pz.map (·.2)
      have m2 : (as.zip L).map (·.2) = L := List.map_snd_zip (by rw [lak]; exact Nat.le_refl _)
      rw [m2] at e
      exact e
    have ne0 : ∀ b o, h'.get? b = some o → b ≠ h'.objs.size := fun b o e => Nat.ne_of_lt (Heap.lt_size e)
    have kS : ∀ b o, s.heap.get? b = some o → h2.get? b = some o := fun b o e => hk2 b o (hk b o e)
    have I1 : Inv X pins σ H { s with heap := h2, toks := tk } := I.kept (t' := tk) kS
    have hn0 : H h'.objs.size = none := I.hok.fresh (Nat.le_of_lt hlt)
    have rv : Vals ((zs.map (·.1)).map V.ref) out := by
      rw [← ez, List.map_map]
      exact vals_maps (fun z : Addr × Int × Int => V.ref z.1) (fun z => Value.ref z.1) zs fun _ _ => rfl
    have hlen : ((zs.map (·.1)).map V.ref).length ≤ sizeLine := by
      have e := hperm.length_eq
      rw [List.length_map] at e
      rw [List.length_map, List.length_map]
      omega
    obtain ⟨eF, heF⟩ := hn
    have I2 : Inv X pins σ (upd H h'.objs.size (.lst ((zs.map (·.1)).map V.ref))) { s with heap := h2, toks := tk } :=
      I1.take (h' := h2) (t' := tk) (fun b ob _ e => e) (I.fpOk (Nat.le_of_lt hlt) hn0) ⟨hlen, out, eF, rv, heF⟩
    obtain ⟨H2, I3, g, qt⟩ := L2.DX.takeT (P := fun b vs => ∃ (j : Nat) (d : Int × Int), as[j]? = some b ∧ L[j]? = some d ∧ vs = [V.int d.1, V.int d.2]) I as _ I2 nd fun b hb => by
      obtain ⟨j, hj⟩ := List.mem_iff_getElem?.mp hb
      obtain ⟨d, t1, t2, he, hg⟩ := made hl hG j b hj
      have hbl : s.heap.objs.size ≤ b := Nat.le_of_lt (hG.above b hb)
      refine ⟨hbl, ?_, [V.int d.1, V.int d.2], ⟨j, d, hj, he, rfl⟩, fun H3 => ⟨(by rw [sizeLine_eq]; show 2 ≤ 16777216; omega), [Value.int d.1 t1, Value.int d.2 t2], .cons ⟨t1, rfl⟩ (.cons ⟨t2, rfl⟩ .nil), ⟨_, hk2 _ _ hg, rfl, 0, rfl⟩⟩⟩
      rw [upd_ne (ne0 _ _ hg)]
      exact I.hok.fresh hbl
    have gr : ∀ b o, H b = some o → H2 b = some o := fun b o e => g b o (by rw [upd_ne (ne_of_none e hn0)]; exact e)
    refine ⟨.ref h'.objs.size, H2, I3, rfl, q H2 h'.objs.size (zs.map (·.1)) (zs.map (·.2)) gr hperm (g _ _ upd_same) (paired_two zs fun z' hz' => ?_)⟩
    obtain ⟨i, i1, i2⟩ := idx z' hz'
    obtain ⟨vs, ⟨j, d, j1, j2, ev⟩, hH⟩ := qt z'.1 (List.mem_of_getElem? i1)
    have eij : i = j := (List.getElem?_inj (List.getElem?_eq_some_iff.mp i1).1 nd).mp (i1.trans j1.symm)
    subst eij
    have ee : d = z'.2 := Option.some.inj (j2.symm.trans i2)
    rw [ev, ee] at hH
    exact hH
end
end Nw
namespace Nw
open PySem PySem.Spec PyProof.Rows L2 Nd
section
variable {P : Program} {w : World} {K : PySem.W.Frag} {mg : Str → Option Value} {base : Heap}
/-- a fraction x / D in least terms -/
abbrev dF (p : Int × Int) : PyData := dI [p.1, p.2]
abbrev Fr (K : PySem.W.Frag) (H : Hp) (v : V) (x D : Int) : Prop := Tp K H v (dF (lp x D))
theorem fr_new {H : Hp} {p : Addr} {x y : Int} (h : H p = some (.tup [.int x, .int y])) : Tp K H (.ref p) (dI [x, y]) := tpI (ns := [x, y]) (SqT.of h)
abbrev N_least_pair : List Str := ["up", "down", "common"]
theorem sc_least_pair : FnScope N_least_pair ["up", "down"] (defScope s_least_pair) := ⟨rfl, rfl, rfl, by decide +kernel, rfl, by decide +kernel, by decide +kernel⟩
def sp_least (K : PySem.W.Frag) : Sp := fun vs H Q _ => ∃ a b : Int, vs = [.int a, .int b] ∧ 0 < b ∧ b < 1073741824 ∧ ∀ v H', Same H H' → Fr K H' v a b → Q v H'
theorem O_least_pair (T : Tx K mg) : Ok P w K mg base 1 (He.ga K "least_pair") ["up", "down"] (sp_least K) := by
  refine Ok.mk T.f_least_pair sc_least_pair (fun vs H Q E h => ?_) (fun _ _ _ _ _ _ us hl => match us, hl with | [_, _], _ => rfl) (fun cdv A outer s H vs Q E hr h => ?_)
  · obtain ⟨a, b, rfl, _⟩ := h; rfl
  · obtain ⟨a, b, rfl, hb, hb2, k⟩ := h
    refine ⟨_, (pss_cons (ps_set (i := 2) sc_least_pair.nd rfl (.inl rfl) (pe_ifExp (pt_cmpR op_gt (pv 1) pe_int (nomark _)) (pe_callBfun cr_gcd (by rfl) T.g_gcd (pa_cons (pv 0) (pa_cons (pv 1) pa_nil))) (pe_un un_neg (pe_callBfun cr_gcd (by rfl) T.g_gcd (pa_cons (pv 0) (pa_cons (pv 1) pa_nil))))))
      (pss_one (ps_ret (pe_tup (pa_cons (pe_op op_fdiv (pv 0) (pv 2)) (pa_cons (pe_op op_fdiv (pv 1) (pv 2)) pa_nil)))))), ?_⟩
    refine ⟨_, rfl, _, _, rfl, rfl, _, rfl, ?_⟩
    rw [decide_eq_true hb]
    refine iteT ⟨_, rfl, _, rfl, _, _, rfl, ?_⟩
    have gk := g0_ok (a := a) hb hb2
    refine ⟨_, rfl, _, rfl, _, _, rfl, rfl, gk, _, rfl, _, rfl, _, _, rfl, rfl, gk, (by show 2 ≤ sizeLine; decide), fun p hp => ?_⟩
    exact k _ _ (same_new hp) (fr_new upd_same)
/-- two fractions of one denominator -/
abbrev N_both : List Str := ["one", "other"]
theorem sc_both : FnScope N_both ["one", "other"] (defScope s_both) := ⟨rfl, rfl, rfl, by decide +kernel, rfl, by decide +kernel, by decide +kernel⟩
def sp_both (K : PySem.W.Frag) : Sp := fun vs H Q _ => ∃ (u v : V) (x y D : Int), vs = [u, v] ∧ Fr K H u x D ∧ Fr K H v y D ∧ 0 < D ∧ D ≤ 10000 ∧ ∀ z H', Same H H' → Fr K H' z (x + y) D → Q z H'
theorem small_mul {a b : Int} (ha : 0 < a) (hb : 0 < b) (ha2 : a ≤ 10000) (hb2 : b ≤ 10000) : 0 < a * b ∧ a * b < 1073741824 := by
  refine ⟨Int.mul_pos ha hb, ?_⟩
  have : a * b ≤ 10000 * 10000 := Int.mul_le_mul ha2 hb2 (by omega) (by omega)
  omega
theorem O_both (T : Tx K mg) : Ok P w K mg base 2 (He.ga K "both") ["one", "other"] (sp_both K) := by
  have O_least_pair := O_least_pair (P := P) (w := w) (base := base) T
  refine Ok.mk T.f_both sc_both (fun vs H Q E h => ?_) (fun _ _ _ _ _ _ us hl => match us, hl with | [_, _], _ => rfl) (fun cdv A outer s H vs Q E hr h => ?_)
  · obtain ⟨u, v, x, y, D, rfl, _⟩ := h; rfl
  · obtain ⟨u, v, x, y, D, rfl, hu, hv, hD, hD2, k⟩ := h
    obtain ⟨a, rfl, ha⟩ := tpI_inv hu
    obtain ⟨b, rfl, hb⟩ := tpI_inv hv
    have p1 := lp_pos (a := x) hD
    have p2 := lp_pos (a := y) hD
    have q1 := lp_le (a := x) hD
    have q2 := lp_le (a := y) hD
    have sm := small_mul p1 p2 (by omega) (by omega)
    refine ⟨_, (pss_one (ps_ret (pe_fn O_least_pair (hr.mono (by decide)) T.g_least_pair (pa_cons (pe_op op_add (pe_op op_mul (pe_ix ix_tup (pv 0) pe_int (fun _ _ => rfl)) (pe_ix ix_tup (pv 1) pe_int (fun _ _ => rfl))) (pe_op op_mul (pe_ix ix_tup (pv 1) pe_int (fun _ _ => rfl)) (pe_ix ix_tup (pv 0) pe_int (fun _ _ => rfl)))) (pa_cons (pe_op op_mul (pe_ix ix_tup (pv 0) pe_int (fun _ _ => rfl)) (pe_ix ix_tup (pv 1) pe_int (fun _ _ => rfl))) pa_nil))))), ?_⟩
    refine ⟨_, rfl, _, _, _, _, rfl, rfl, ha, rfl, _, rfl, _, _, _, _, rfl, rfl, hb, rfl, _, _, rfl, rfl, .inr (by omega), ?_⟩
    refine ⟨_, rfl, _, _, _, _, rfl, rfl, hb, rfl, _, rfl, _, _, _, _, rfl, rfl, ha, rfl, _, _, rfl, rfl, .inr (by omega), _, _, rfl, rfl, ?_⟩
    refine ⟨_, rfl, _, _, _, _, rfl, rfl, ha, rfl, _, rfl, _, _, _, _, rfl, rfl, hb, rfl, _, _, rfl, rfl, .inr (by omega), ?_⟩
    refine ⟨_, _, rfl, sm.1, sm.2, fun z H' s' f => k z H' s' ?_⟩
    rw [show (lp x D).2 * (lp y D).2 = (lp x D).2 * (lp y D).2 from rfl] at f
    have e := lp_add (x := x) (y := y) hD
    unfold Fr at f ⊢
    rw [← e]
    exact f
abbrev N_times : List Str := ["one", "other"]
theorem sc_times : FnScope N_times ["one", "other"] (defScope s_times) := ⟨rfl, rfl, rfl, by decide +kernel, rfl, by decide +kernel, by decide +kernel⟩
def sp_times (K : PySem.W.Frag) : Sp := fun vs H Q _ => ∃ (u v : V) (a m D : Int), vs = [u, v] ∧ Tp K H u (dI [a, 1]) ∧ Fr K H v m D ∧ 0 < D ∧ D ≤ 10000 ∧ (-(2 ^ 64) < a ∧ a < 2 ^ 64) ∧ ∀ z H', Same H H' → Fr K H' z (a * m) D → Q z H'
theorem O_times (T : Tx K mg) : Ok P w K mg base 2 (He.ga K "times") ["one", "other"] (sp_times K) := by
  have O_least_pair := O_least_pair (P := P) (w := w) (base := base) T
  refine Ok.mk T.f_times sc_times (fun vs H Q E h => ?_) (fun _ _ _ _ _ _ us hl => match us, hl with | [_, _], _ => rfl) (fun cdv A outer s H vs Q E hr h => ?_)
  · obtain ⟨u, v, x, y, D, rfl, _⟩ := h; rfl
  · obtain ⟨u, v, x, y, D, rfl, hu, hv, hD, hD2, hx, k⟩ := h
    obtain ⟨a, rfl, ha⟩ := tpI_inv hu
    obtain ⟨b, rfl, hb⟩ := tpI_inv hv
    have p2 := lp_pos (a := y) hD
    have q2 := lp_le (a := y) hD
    refine ⟨_, (pss_one (ps_ret (pe_fn O_least_pair (hr.mono (by decide)) T.g_least_pair (pa_cons (pe_op op_mul (pe_ix ix_tup (pv 0) pe_int (fun _ _ => rfl)) (pe_ix ix_tup (pv 1) pe_int (fun _ _ => rfl))) (pa_cons (pe_op op_mul (pe_ix ix_tup (pv 0) pe_int (fun _ _ => rfl)) (pe_ix ix_tup (pv 1) pe_int (fun _ _ => rfl))) pa_nil))))), ?_⟩
    refine ⟨_, rfl, _, _, _, _, rfl, rfl, ha, rfl, _, rfl, _, _, _, _, rfl, rfl, hb, rfl, _, _, rfl, rfl, .inl hx, ?_⟩
    refine ⟨_, rfl, _, _, _, _, rfl, rfl, ha, rfl, _, rfl, _, _, _, _, rfl, rfl, hb, rfl, _, _, rfl, rfl, .inl (by omega), ?_⟩
    refine ⟨_, _, rfl, by omega, by omega, fun z H' s' f => k z H' s' ?_⟩
    have e := lp_times (w := x) (m := y) hD
    unfold Fr at f ⊢
    rw [← e]
    exact f
abbrev N_turned : List Str := ["one"]
theorem sc_turned : FnScope N_turned ["one"] (defScope s_turned) := ⟨rfl, rfl, rfl, by decide +kernel, rfl, by decide +kernel, by decide +kernel⟩
def sp_turned (K : PySem.W.Frag) : Sp := fun vs H Q _ => ∃ (u : V) (x D : Int), vs = [u] ∧ Fr K H u x D ∧ ∀ z H', Same H H' → Fr K H' z (-x) D → Q z H'
theorem O_turned (T : Tx K mg) : Ok P w K mg base 1 (He.ga K "turned") ["one"] (sp_turned K) := by
  refine Ok.mk T.f_turned sc_turned (fun vs H Q E h => ?_) (fun _ _ _ _ _ _ us hl => match us, hl with | [_], _ => rfl) (fun cdv A outer s H vs Q E hr h => ?_)
  · obtain ⟨u, x, D, rfl, _⟩ := h; rfl
  · obtain ⟨u, x, D, rfl, hu, k⟩ := h
    obtain ⟨a, rfl, ha⟩ := tpI_inv hu
    refine ⟨_, (pss_one (ps_ret (pe_tup (pa_cons (pe_un un_neg (pe_ix ix_tup (pv 0) pe_int (fun _ _ => rfl))) (pa_cons (pe_ix ix_tup (pv 0) pe_int (fun _ _ => rfl)) pa_nil))))), ?_⟩
    refine ⟨_, rfl, _, _, _, _, rfl, rfl, ha, rfl, _, rfl, _, rfl, _, _, _, _, rfl, rfl, ha, rfl, (by show 2 ≤ sizeLine; decide), fun p hp => ?_⟩
    refine k _ _ (same_new hp) ?_
    have e := lp_neg (x := x) (D := D)
    unfold Fr
    rw [← e]
    exact fr_new upd_same
abbrev N_is_less : List Str := ["one", "other"]
theorem sc_is_less : FnScope N_is_less ["one", "other"] (defScope s_is_less) := ⟨rfl, rfl, rfl, by decide +kernel, rfl, by decide +kernel, by decide +kernel⟩
def sp_less (K : PySem.W.Frag) : Sp := fun vs H Q _ => ∃ (u v : V) (x y D : Int), vs = [u, v] ∧ Fr K H u x D ∧ Fr K H v y D ∧ 0 < D ∧ D ≤ 10000 ∧ Q (.bl (decide (x < y))) H
theorem O_is_less (T : Tx K mg) : Ok P w K mg base 1 (He.ga K "is_less") ["one", "other"] (sp_less K) := by
  refine Ok.mk T.f_is_less sc_is_less (fun vs H Q E h => ?_) (fun _ _ _ _ _ _ us hl => match us, hl with | [_, _], _ => rfl) (fun cdv A outer s H vs Q E hr h => ?_)
  · obtain ⟨u, v, x, y, D, rfl, _⟩ := h; rfl
  · obtain ⟨u, v, x, y, D, rfl, hu, hv, hD, hD2, k⟩ := h
    obtain ⟨a, rfl, ha⟩ := tpI_inv hu
    obtain ⟨b, rfl, hb⟩ := tpI_inv hv
    have p1 := lp_pos (a := x) hD
    have p2 := lp_pos (a := y) hD
    have q1 := lp_le (a := x) hD
    have q2 := lp_le (a := y) hD
    refine ⟨_, (pss_one (ps_ret (pe_cmpR op_lt (pe_op op_mul (pe_ix ix_tup (pv 0) pe_int (fun _ _ => rfl)) (pe_ix ix_tup (pv 1) pe_int (fun _ _ => rfl))) (pe_op op_mul (pe_ix ix_tup (pv 1) pe_int (fun _ _ => rfl)) (pe_ix ix_tup (pv 0) pe_int (fun _ _ => rfl))) (nomark _)))), ?_⟩
    refine ⟨_, rfl, _, _, _, _, rfl, rfl, ha, rfl, _, rfl, _, _, _, _, rfl, rfl, hb, rfl, _, _, rfl, rfl, .inr (by omega), ?_⟩
    refine ⟨_, rfl, _, _, _, _, rfl, rfl, hb, rfl, _, rfl, _, _, _, _, rfl, rfl, ha, rfl, _, _, rfl, rfl, .inr (by omega), _, _, rfl, rfl, ?_⟩
    have e : decide ((lp x D).1 * (lp y D).2 < (lp y D).1 * (lp x D).2) = decide (x < y) := decide_eq_decide.mpr (lp_less hD)
    show Q (.bl (decide ((lp x D).1 * (lp y D).2 < (lp y D).1 * (lp x D).2))) H
    rw [e]
    exact k
abbrev N_total_of : List Str := ["fractions", "total", "each"]
theorem sc_total_of : FnScope N_total_of ["fractions"] (defScope s_total_of) := ⟨rfl, rfl, rfl, by decide +kernel, rfl, by decide +kernel, by decide +kernel⟩
def sumL (ns : List Int) : Int := ns.foldl (· + ·) 0
theorem sumL_snoc {ns : List Int} {i : Nat} {x : Int} (h : ns[i]? = some x) : sumL (ns.take (i + 1)) = sumL (ns.take i) + x := by
  unfold sumL
  rw [List.take_succ, h, List.foldl_append]
  rfl
def sp_total (K : PySem.W.Frag) : Sp := fun vs H Q _ => ∃ (v : V) (ns : List Int) (D : Int), vs = [v] ∧ Lp K H v (ns.map fun x => dF (lp x D)) ∧ 0 < D ∧ D ≤ 10000 ∧ ∀ z H', Same H H' → Fr K H' z (sumL ns) D → Q z H'
theorem O_total_of (T : Tx K mg) : Ok P w K mg base 3 (He.ga K "total_of") ["fractions"] (sp_total K) := by
  have O_both := O_both (P := P) (w := w) (base := base) T
  refine Ok.mk T.f_total_of sc_total_of (fun vs H Q E h => ?_) (fun _ _ _ _ _ _ us hl => match us, hl with | [_], _ => rfl) (fun cdv A outer s H vs Q E hr h => ?_)
  · obtain ⟨v, ns, D, rfl, _⟩ := h; rfl
  · obtain ⟨v, ns, D, rfl, ⟨a, xs, rfl, hx, ht⟩, hD, hD2, k⟩ := h
    have hl : xs.length = ns.length := by rw [ht.length, List.length_map]
    refine ⟨_, (pss_cons (ps_set (i := 1) sc_total_of.nd rfl (.inl rfl) (pe_glob (v := .ref (He.ga K "NOUGHT")) (by rfl) T.g_NOUGHT rfl))
      (pss_cons (ps_for PassesOwn.never rfl (pi_list (pv 0)) (pg_name (i := 2) sc_total_of.nd rfl (.inl rfl) (by first | exact .inl rfl | exact .inr rfl))
      (pss_one (ps_set (i := 1) sc_total_of.nd rfl (.inl rfl) (pe_fn O_both (hr.mono (by decide)) T.g_both (pa_cons (pv 1) (pa_cons (pv 2) pa_nil))))))
      (pss_one (ps_ret (pv 1))))), ?_⟩
    refine ⟨_, rfl, a, rfl, ⟨_, hx⟩, for_src (Src.list (xs := xs)) (fun i σ H' => ∃ (u : V) (o : Option V), σ = [some (.ref a), some u, o] ∧ Same H H' ∧ Fr K H' u (sumL (ns.take i)) D) ?_ ?_ ?_ ?_⟩
    · refine ⟨_, none, rfl, Same.refl _, ?_⟩
      unfold Fr
      rw [show sumL (ns.take 0) = 0 from rfl, lp_zero hD]
      exact tpI (ns := [0, 1]) (T.t_NOUGHT H)
    · rintro i σ H' _ ⟨u, o, _, s1, _⟩
      exact s1.seq hx
    · rintro i d x σ H' H'' hi ⟨u, o, rfl, s1, f1⟩ s2 rfl
      obtain ⟨n, hn, tn⟩ := ht.mapGet hi
      refine ⟨_, rfl, _, rfl, _, _, _, _, D, rfl, f1.same s2, tn.same (s1.trans s2), hD, hD2, fun z H3 s3 f3 => ?_⟩
      refine ⟨z, _, rfl, (s1.trans s2).trans s3, ?_⟩
      rw [sumL_snoc hn]
      exact f3
    · rintro σ H' ⟨u, o, rfl, s1, f1⟩
      refine ⟨_, rfl, k _ _ s1 ?_⟩
      rw [hl, List.take_length] at f1
      exact f1
abbrev N_more_of : List Str := ["one", "other"]
theorem sc_more_of : FnScope N_more_of ["one", "other"] (defScope s_more_of) := ⟨rfl, rfl, rfl, by decide +kernel, rfl, by decide +kernel, by decide +kernel⟩
abbrev dP (x : Int) (p : List Nat) (D : Int) : PyData := .tuple [dF (lp x D), dI (p.map fun (j : Nat) => (j : Int))]
theorem dP_inv {H : Hp} {u : V} {x D : Int} {p : List Nat} (h : Tp K H u (dP x p D)) : ∃ a y z, u = .ref a ∧ SqT K H a [y, z] ∧ Fr K H y x D ∧ Tp K H z (dI (p.map fun (j : Nat) => (j : Int))) := by
  obtain ⟨a, xs, rfl, h1, h2⟩ := h.tup_inv
  cases h2 with
  | cons t1 t2 =>
    cases t2 with
    | cons t3 t4 =>
      cases t4
      exact ⟨a, _, _, rfl, h1, t1, t3⟩
def sp_more (K : PySem.W.Frag) : Sp := fun vs H Q _ => ∃ (u v : V) (x y D : Int) (p q : List Nat), vs = [u, v] ∧ Tp K H u (dP x p D) ∧ Tp K H v (dP y q D) ∧ 0 < D ∧ D ≤ 10000 ∧ Q (if x < y then v else u) H
theorem O_more_of (T : Tx K mg) : Ok P w K mg base 2 (He.ga K "more_of") ["one", "other"] (sp_more K) := by
  have O_is_less := O_is_less (P := P) (w := w) (base := base) T
  refine Ok.mk T.f_more_of sc_more_of (fun vs H Q E h => ?_) (fun _ _ _ _ _ _ us hl => match us, hl with | [_, _], _ => rfl) (fun cdv A outer s H vs Q E hr h => ?_)
  · obtain ⟨u, v, x, y, D, p, q, rfl, _⟩ := h; rfl
  · obtain ⟨u, v, x, y, D, p, q, rfl, hu, hv, hD, hD2, k⟩ := h
    obtain ⟨a, y1, z1, rfl, h1, f1, _⟩ := dP_inv hu
    obtain ⟨b, y2, z2, rfl, h2, f2, _⟩ := dP_inv hv
    refine ⟨_, (pss_one (ps_ret (pe_ifExp (pt_val (pe_fn O_is_less (hr.mono (by decide)) T.g_is_less (pa_cons (pe_ix ix_tup (pv 0) pe_int (fun _ _ => rfl)) (pa_cons (pe_ix ix_tup (pv 1) pe_int (fun _ _ => rfl)) pa_nil)))) (pv 1) (pv 0)))), ?_⟩
    refine ⟨_, rfl, _, _, _, _, rfl, rfl, h1, rfl, _, rfl, _, _, _, _, rfl, rfl, h2, rfl, _, _, x, y, D, rfl, f1, f2, hD, hD2, _, rfl, ?_⟩
    by_cases c : x < y
    · rw [decide_eq_true c]
      rw [if_pos c] at k
      exact iteT ⟨_, rfl, k⟩
    · rw [decide_eq_false c]
      rw [if_neg c] at k
      exact iteF ⟨_, rfl, k⟩
abbrev N_with_pick : List Str := ["sums", "number", "at"]
theorem sc_with_pick : FnScope N_with_pick ["sums", "number", "at"] (defScope s_with_pick) := ⟨rfl, rfl, rfl, by decide +kernel, rfl, by decide +kernel, by decide +kernel⟩
def sp_pick (K : PySem.W.Frag) : Sp := fun vs H Q _ => ∃ (u v : V) (x y D : Int) (p : List Nat) (j : Nat), vs = [u, v, .int j] ∧ Tp K H u (dP x p D) ∧ Fr K H v y D ∧ 0 < D ∧ D ≤ 10000 ∧ p.length ≤ 1000 ∧ ∀ z H', Same H H' → Tp K H' z (dP (x + y) (p ++ [j]) D) → Q z H'
theorem O_with_pick (T : Tx K mg) : Ok P w K mg base 3 (He.ga K "with_pick") ["sums", "number", "at"] (sp_pick K) := by
  have O_both := O_both (P := P) (w := w) (base := base) T
  refine Ok.mk T.f_with_pick sc_with_pick (fun vs H Q E h => ?_) (fun _ _ _ _ _ _ us hl => match us, hl with | [_, _, _], _ => rfl) (fun cdv A outer s H vs Q E hr h => ?_)
  · obtain ⟨u, v, x, y, D, p, q, rfl, _⟩ := h; rfl
  · obtain ⟨u, v, x, y, D, p, j, rfl, hu, hv, hD, hD2, hp, k⟩ := h
    obtain ⟨a, y1, z1, rfl, h1, f1, t1⟩ := dP_inv hu
    obtain ⟨b, rfl, hb⟩ := tpI_inv t1
    refine ⟨_, (pss_one (ps_ret (pe_tup (pa_cons (pe_fn O_both (hr.mono (by decide)) T.g_both (pa_cons (pe_ix ix_tup (pv 0) pe_int (fun _ _ => rfl)) (pa_cons (pv 1) pa_nil))) (pa_cons (pe_tup (StX.pa_star (pe_ix ix_tup (pv 0) pe_int (fun _ _ => rfl)) (pa_cons (pv 2) pa_nil))) pa_nil))))), ?_⟩
    refine ⟨_, rfl, _, _, _, _, rfl, rfl, h1, rfl, _, rfl, _, _, x, y, D, rfl, f1, hv, hD, hD2, fun z H1 s1 fz => ?_⟩
    refine ⟨_, rfl, _, _, _, _, rfl, rfl, same_t s1 h1, rfl, b, _, rfl, .inl (same_t s1 hb), _, rfl, ?_, fun q hq => ?_⟩
    · rw [List.length_append, List.length_map, List.length_map]
      show p.length + 1 ≤ sizeLine
      have : (1001 : Nat) ≤ sizeLine := by decide
      omega
    refine ⟨(by show 2 ≤ sizeLine; decide), fun r hr2 => ?_⟩
    have s2 : Same H1 (upd H1 q (.tup ((p.map fun (j : Nat) => (j : Int)).map V.int ++ [.int j]))) := same_new hq
    refine k _ _ ((s1.trans s2).trans (same_new hr2)) ?_
    refine .tup (SqT.of upd_same) (.cons (fz.same (s2.trans (same_new hr2))) (.cons ?_ .nil))
    refine tpI (SqT.of ?_)
    have hqr : q ≠ r := fun e => by
      rw [← e, upd_same] at hr2
      cases hr2
    rw [upd_ne hqr, upd_same]
    simp
end
end Nw
namespace Nw
open PySem PySem.Spec PyProof.Rows L2 Nd
theorem canLay_ints : ∀ ns : List Int, PyData.canLayAll0 (ns.map PyData.int) = true
  | [] => by simp only [List.map_nil, PyData.canLayAll0]
  | n :: ns => by
    rw [List.map_cons]
    simp only [PyData.canLayAll0, PyData.canLay0]
    rw [canLay_ints ns]
    rfl
theorem depth_ints : ∀ ns : List Int, PyData.depthAll (ns.map PyData.int) = 0
  | [] => by simp only [List.map_nil, PyData.depthAll]
  | n :: ns => by
    rw [List.map_cons]
    simp only [PyData.depthAll, PyData.depth]
    rw [depth_ints ns]
    rfl
theorem shaped_ints (ns : List Int) : SeqAt.shaped (dI ns) = true := by
  unfold SeqAt.shaped
  refine Bool.and_eq_true_iff.mpr ⟨?_, decide_eq_true ?_⟩
  · show PyData.canLay0 (.tuple _) = true
    simp only [PyData.canLay0]
    exact canLay_ints ns
  · show PyData.depth (.tuple _) ≤ 64
    simp only [PyData.depth]
    rw [depth_ints ns]
    decide
theorem eqv_ints : ∀ ns ms : List Int, PyData.eqvAll (ns.map PyData.int) (ms.map PyData.int) = decide (ns = ms)
  | [], [] => by simp only [List.map_nil, PyData.eqvAll]; rfl
  | [], m :: ms => by simp only [List.map_nil, List.map_cons, PyData.eqvAll]; rfl
  | n :: ns, [] => by simp only [List.map_nil, List.map_cons, PyData.eqvAll]; rfl
  | n :: ns, m :: ms => by
    simp only [List.map_cons, PyData.eqvAll, PyData.eqv]
    rw [eqv_ints ns ms]
    by_cases h : n = m
    · subst h
      by_cases g : ns = ms
      · subst g; simp
      · simp [g]
    · simp [h]
theorem eqv_dI (ns ms : List Int) : PyData.eqv (dI ns) (dI ms) = decide (ns = ms) := by
  show PyData.eqv (.tuple _) (.tuple _) = _
  simp only [PyData.eqv]
  exact eqv_ints ns ms
section
variable {P : Program} {w : World} {K : PySem.W.Frag} {mg : Str → Option Value} {base : Heap}
abbrev N_best_turns : List Str := ["numbers", "up", "down", "at", "number", "total", "picks", "last", "first"]
theorem sc_best_turns : FnScope N_best_turns ["numbers"] (defScope s_best_turns) := ⟨rfl, rfl, rfl, by decide +kernel, rfl, by decide +kernel, by decide +kernel⟩
def signOf (b : Bool) : Int := if b = true then -1 else 1
abbrev dN (p : List Nat) : PyData := dI (p.map fun (j : Nat) => (j : Int))
abbrev dBest (c : Nat → Int) (m : Nat) (D : Int) : PyData := .tuple [dF (lp (best c m) D), dN (dpTop c m).2, .int (signOf (dpLeft c m))]
def sp_best (K : PySem.W.Frag) : Sp := fun vs H Q _ => ∃ (v : V) (c : Nat → Int) (m : Nat) (D : Int), vs = [v] ∧ Lp K H v ((List.range m).map fun j => dF (lp (c j) D)) ∧ m ≤ 100 ∧ 0 < D ∧ D ≤ 10000 ∧ ∀ z H', Same H H' → Tp K H' z (dBest c m D) → Q z H'
theorem dp_len (c : Nat → Int) : ∀ m, (dp c m).1.2.length ≤ m ∧ (dp c m).2.2.length ≤ m
  | 0 => ⟨Nat.le_refl _, Nat.le_refl _⟩
  | m + 1 => by
    obtain ⟨h1, h2⟩ := dp_len c m
    simp only [dp]
    constructor
    · split
      · rw [List.length_append, List.length_singleton]; omega
      · omega
    · split
      · rw [List.length_append, List.length_singleton]; omega
      · omega
theorem dp_step1 {H : Hp} {u d z : V} {c : Nat → Int} {m : Nat} {D : Int} (hu : Tp K H u (dP (dp c m).1.1 (dp c m).1.2 D)) (hz : Tp K H z (dP ((dp c m).2.1 + c m) ((dp c m).2.2 ++ [m]) D)) :
    Tp K H (if (dp c m).1.1 < (dp c m).2.1 + c m then z else u) (dP (dp c (m + 1)).1.1 (dp c (m + 1)).1.2 D) := by
  simp only [dp]
  split
  · exact hz
  · exact hu
theorem dp_step2 {H : Hp} {u d z : V} {c : Nat → Int} {m : Nat} {D : Int} (hd : Tp K H d (dP (dp c m).2.1 (dp c m).2.2 D)) (hz : Tp K H z (dP ((dp c m).1.1 + -(c m)) ((dp c m).1.2 ++ [m]) D)) :
    Tp K H (if (dp c m).2.1 < (dp c m).1.1 + -(c m) then z else d) (dP (dp c (m + 1)).2.1 (dp c (m + 1)).2.2 D) := by
  simp only [dp]
  rw [← Int.sub_eq_add_neg] at hz ⊢
  split
  · exact hz
  · exact hd
theorem O_best_turns (T : Tx K mg) : Ok P w K mg base 4 (He.ga K "best_turns") ["numbers"] (sp_best K) := by
  have O_more_of := O_more_of (P := P) (w := w) (base := base) T
  have O_with_pick := O_with_pick (P := P) (w := w) (base := base) T
  have O_turned := O_turned (P := P) (w := w) (base := base) T
  have O_is_less := O_is_less (P := P) (w := w) (base := base) T
  refine Ok.mk T.f_best_turns sc_best_turns (fun vs H Q E h => ?_) (fun _ _ _ _ _ _ us hl => match us, hl with | [_], _ => rfl) (fun cdv A outer s H vs Q E hr h => ?_)
  · obtain ⟨v, c, m, D, rfl, _⟩ := h; rfl
  · obtain ⟨v, c, m, D, rfl, ⟨a, xs, rfl, hx, ht⟩, hm, hD, hD2, k⟩ := h
    have hl : xs.length = m := by rw [ht.length, List.length_map, List.length_range]
    refine ⟨_, (pss_cons (ps_par (i := 1) (j := 2) rfl sc_best_turns.nd rfl rfl (by decide) rfl rfl (pa_cons (pe_tup (pa_cons (pe_glob (v := .ref (He.ga K "NOUGHT")) (by rfl) T.g_NOUGHT rfl) (pa_cons (pe_tup pa_nil) pa_nil))) (pa_cons (pe_tup (pa_cons (pe_glob (v := .ref (He.ga K "NOUGHT")) (by rfl) T.g_NOUGHT rfl) (pa_cons (pe_tup pa_nil) pa_nil))) pa_nil)) (by rfl))
      (pss_cons (ps_for PassesOwn.never rfl (pi_enum (by rfl) T.z_enumerate (pa_cons (pv 0) pa_nil)) (pg_tup rfl (pgs_cons (pg_name (i := 3) sc_best_turns.nd rfl (.inl rfl) (by first | exact .inl rfl | exact .inr rfl)) (pgs_cons (pg_name (i := 4) sc_best_turns.nd rfl (.inl rfl) (by first | exact .inl rfl | exact .inr rfl)) pgs_nil)))
      (pss_one (ps_par (i := 1) (j := 2) rfl sc_best_turns.nd rfl rfl (by decide) rfl rfl (pa_cons (pe_fn O_more_of (hr.mono (by decide)) T.g_more_of (pa_cons (pv 1) (pa_cons (pe_fn O_with_pick (hr.mono (by decide)) T.g_with_pick (pa_cons (pv 2) (pa_cons (pv 4) (pa_cons (pv 3) pa_nil)))) pa_nil))) (pa_cons (pe_fn O_more_of (hr.mono (by decide)) T.g_more_of (pa_cons (pv 2) (pa_cons (pe_fn O_with_pick (hr.mono (by decide)) T.g_with_pick (pa_cons (pv 1) (pa_cons (pe_fn O_turned (hr.mono (by decide)) T.g_turned (pa_cons (pv 4) pa_nil)) (pa_cons (pv 3) pa_nil)))) pa_nil))) pa_nil)) (by rfl))))
      (pss_cons (ps_asg (pe_fn O_more_of (hr.mono (by decide)) T.g_more_of (pa_cons (pv 1) (pa_cons (pv 2) pa_nil))) (pg_tup rfl (pgs_cons (pg_name (i := 5) sc_best_turns.nd rfl (.inl rfl) (by first | exact .inl rfl | exact .inr rfl)) (pgs_cons (pg_name (i := 6) sc_best_turns.nd rfl (.inl rfl) (by first | exact .inl rfl | exact .inr rfl)) pgs_nil))))
      (pss_cons (ps_set (i := 7) sc_best_turns.nd rfl (.inl rfl) (pe_ifExp (pt_val (pe_fn O_is_less (hr.mono (by decide)) T.g_is_less (pa_cons (pe_ix ix_tup (pv 1) pe_int (fun _ _ => rfl)) (pa_cons (pe_ix ix_tup (pv 2) pe_int (fun _ _ => rfl)) pa_nil)))) (pe_un un_neg pe_int) pe_int))
      (pss_cons (ps_set (i := 8) sc_best_turns.nd rfl (.inl rfl) (pe_ifExp (pt_cmpR op_eq (pe_op op_mod (pe_callB call_len_seq (by rfl) T.z_len (by decide +kernel) (pa_cons (pv 6) pa_nil)) pe_int) pe_int (nomark _)) (pv 7) (pe_un un_neg (pv 7))))
      (pss_one (ps_ret (pe_tup (pa_cons (pv 5) (pa_cons (pv 6) (pa_cons (pe_ifExp (pt_cmpR (op_neD hr.units) (pv 6) (pe_tup pa_nil) (nomark _)) (pv 8) pe_int) pa_nil))))))))))), ?_⟩
    -- up, down = (NOUGHT, ()), (NOUGHT, ())
    refine ⟨Nat.zero_le _, fun p1 hp1 => ⟨(by show 2 ≤ sizeLine; decide), fun q1 hq1 => ⟨Nat.zero_le _, fun p2 hp2 => ⟨(by show 2 ≤ sizeLine; decide), fun q2 hq2 => ⟨_, _, rfl, ?_⟩⟩⟩⟩⟩
    have sA := same_new (o := .tup []) hp1
    have sB := same_new (o := .tup [.ref (He.ga K "NOUGHT"), .ref p1]) hq1
    have sC := same_new (o := .tup []) hp2
    have sD := same_new (o := .tup [.ref (He.ga K "NOUGHT"), .ref p2]) hq2
    have e0 : dP 0 [] D = .tuple [dI [0, 1], dI []] := by
      show PyData.tuple [dF (lp 0 D), _] = _
      rw [lp_zero hD]
      rfl
    have t0 : ∀ (H' : Hp) (q p : Addr), H' q = some (.tup [.ref (He.ga K "NOUGHT"), .ref p]) → H' p = some (.tup []) → Tp K H' (.ref q) (dP 0 [] D) := fun H' q p hq hp => by
      rw [e0]
      exact .tup (SqT.of hq) (.cons (tpI (ns := [0, 1]) (T.t_NOUGHT H')) (.cons (tpI (ns := []) (SqT.of hp)) .nil))
    have tu := t0 _ q1 p1 (sD _ _ (sC _ _ upd_same)) (sD _ _ (sC _ _ (sB _ _ upd_same)))
    have td := t0 _ q2 p2 upd_same (sD _ _ upd_same)
    have s0 := ((sA.trans sB).trans sC).trans sD
    refine ⟨_, rfl, a, xs, rfl, s0.seq hx, for_src (Src.enum (xs := xs)) (fun i σ H' => ∃ (u d : V) (o3 o4 : Option V), σ = [some (.ref a), some u, some d, o3, o4, none, none, none, none] ∧ Same H H' ∧ Tp K H' u (dP (dp c i).1.1 (dp c i).1.2 D) ∧ Tp K H' d (dP (dp c i).2.1 (dp c i).2.2 D)) ?_ ?_ ?_ ?_⟩
    · exact ⟨_, _, none, none, rfl, s0, tu, td⟩
    · rintro i σ H' _ ⟨u, d, o3, o4, _, s1, _⟩
      exact s1.seq hx
    · rintro j i y σ H' H'' hi ⟨u, d, o3, o4, rfl, s1, hu, hd⟩ s2 ⟨T1, x, rfl, hx', hT⟩
      obtain ⟨_, e⟩ := range_get hi
      subst e
      obtain ⟨n, hn, tn⟩ := ht.mapGet hx'
      have hlt := (List.getElem?_eq_some_iff.mp hn).1
      rw [List.length_range] at hlt
      rw [List.getElem?_range hlt] at hn
      cases hn
      have hlen := dp_len c i
      refine ⟨T1, _, rfl, SqT.of hT, rfl, _, _, rfl, _, _, rfl, rfl, ?_⟩
      have u2 := hu.same s2
      have d2 := hd.same s2
      have n2 := tn.same (s1.trans s2)
      refine ⟨_, rfl, _, rfl, _, rfl, _, rfl, _, _, _, _, D, _, _, rfl, d2, n2, hD, hD2, by omega, fun z1 H1 r1 tz1 => ?_⟩
      refine ⟨_, _, _, _, D, _, _, rfl, u2.same r1, tz1, hD, hD2, ?_⟩
      refine ⟨_, rfl, _, rfl, _, rfl, _, _, D, rfl, n2.same r1, fun nz H2 r2 tnz => ?_⟩
      refine ⟨_, rfl, _, _, _, _, D, _, _, rfl, u2.same (r1.trans r2), tnz, hD, hD2, by omega, fun z2 H3 r3 tz2 => ?_⟩
      refine ⟨_, _, _, _, D, _, _, rfl, d2.same ((r1.trans r2).trans r3), tz2, hD, hD2, _, _, rfl, ?_⟩
      refine ⟨_, _, _, _, rfl, (s1.trans s2).trans ((r1.trans r2).trans r3), ?_, ?_⟩
      · exact dp_step1 (d := d) (u2.same ((r1.trans r2).trans r3)) (tz1.same (r2.trans r3))
      · exact dp_step2 (u := u) (d2.same ((r1.trans r2).trans r3)) tz2
    · rintro σ H' ⟨u, d, o3, o4, rfl, s1, hu, hd⟩
      rw [List.length_range, hl] at hu hd
      -- total, picks = more_of(up, down)
      refine ⟨_, rfl, _, rfl, _, _, _, _, D, _, _, rfl, hu, hd, hD, hD2, ?_⟩
      have tt : Tp K H' (if (dp c m).1.1 < (dp c m).2.1 then d else u) (dP (best c m) (dpTop c m).2 D) := by
        unfold best dpTop
        split
        · exact hd
        · exact hu
      generalize (if (dp c m).1.1 < (dp c m).2.1 then d else u) = tv at tt ⊢
      obtain ⟨b, y1, z1, rfl, h1, f1, t1⟩ := dP_inv tt
      obtain ⟨b2, rfl, h2⟩ := tpI_inv t1
      refine ⟨b, _, rfl, h1, rfl, _, _, rfl, _, _, rfl, rfl, ?_⟩
      -- last = -1 if is_less(up[0], down[0]) else 1
      obtain ⟨bu, yu, zu, rfl, gu, fu, _⟩ := dP_inv hu
      obtain ⟨bd, yd, zd, rfl, gd, fd, _⟩ := dP_inv hd
      refine ⟨_, rfl, _, _, _, _, rfl, rfl, gu, rfl, _, rfl, _, _, _, _, rfl, rfl, gd, rfl, _, _, _, _, D, rfl, fu, fd, hD, hD2, _, rfl, ?_⟩
      have el : (List.map V.int (List.map (fun (j : Nat) => (j : Int)) (dpTop c m).2)).length = (dpTop c m).2.length := by simp
      have fin : ∀ (H2 : Hp) (sg : Int) (z : V), Same H' H2 → (if (dpTop c m).2 = [] then (1 : Int) else sg) = signOf (dpLeft c m) → z = .int sg →
          (tRet (tTup (tCons (tVar 5) (tCons (tVar 6) (tCons (tIf (tTest (tOp (rNeD K) (tVar 6) (tTup tNil))) (tVar 8) (tC (V.int 1))) tNil)))))
            { nx := fun _ H' => Q .non H', rt := Q } [some (.ref a), some (.ref bu), some (.ref bd), o3, o4, some y1, some (.ref b2), some (.int (signOf (decide ((dp c m).1.1 < (dp c m).2.1)))), some z] H2 := by
        intro H2 sg z s2 hsg hz
        subst hz
        refine ⟨_, rfl, _, rfl, _, rfl, Nat.zero_le _, fun p hp => ?_⟩
        have s3 : Same H2 (upd H2 p (.tup [])) := same_new hp
        refine ⟨_, .tuple [], (t1.same (s2.trans s3)).dp, .tup (SqT.of upd_same) .nil, shaped_ints _, shaped_ints [], ?_⟩
        have ee : PyData.eqv (dN (dpTop c m).2) (.tuple []) = decide ((dpTop c m).2 = []) := by
          refine (eqv_dI _ []).trans (decide_eq_decide.mpr ?_)
          exact List.map_eq_nil_iff
        refine ⟨!decide ((dpTop c m).2 = []), by rw [← ee], ?_⟩
        have done : ∀ sg' : Int, sg' = signOf (dpLeft c m) → ([V.ref b2, V.int sg'].length + 1 ≤ sizeLine ∧ ∀ q, upd H2 p (.tup []) q = none → Q (.ref q) (upd (upd H2 p (.tup [])) q (.tup (y1 :: [V.ref b2, V.int sg'])))) := by
          intro sg' e
          refine ⟨by show 3 ≤ sizeLine; decide, fun q hq => k _ _ (((s1.trans s2).trans s3).trans (same_new hq)) ?_⟩
          have s4 := (s2.trans s3).trans (same_new (o := .tup (y1 :: [V.ref b2, V.int sg'])) hq)
          rw [e] at s4 ⊢
          exact .tup (SqT.of upd_same) (.cons (f1.same s4) (.cons (t1.same s4) (.cons (.int _) .nil)))
        by_cases hn : (dpTop c m).2 = []
        · rw [if_pos hn] at hsg
          rw [decide_eq_true hn]
          exact iteF (done 1 hsg)
        · rw [if_neg hn] at hsg
          rw [decide_eq_false hn]
          exact iteT ⟨_, rfl, done sg hsg⟩
      have key : ∀ sg : Int, ((dpTop c m).2.length % 2 = 1 → sg = signOf (decide ((dp c m).1.1 < (dp c m).2.1))) → (¬ (dpTop c m).2.length % 2 = 1 → sg = -signOf (decide ((dp c m).1.1 < (dp c m).2.1))) →
          (if (dpTop c m).2 = [] then (1 : Int) else sg) = signOf (dpLeft c m) := by
        intro sg g1 g2
        unfold dpLeft
        dsimp only
        by_cases hn : (dpTop c m).2 = []
        · rw [if_pos hn, if_pos hn]; rfl
        · rw [if_neg hn, if_neg hn]
          by_cases ho : (dpTop c m).2.length % 2 = 1
          · rw [if_pos ho, g1 ho]
          · rw [if_neg ho, g2 ho]
            cases decide ((dp c m).1.1 < (dp c m).2.1) <;> rfl
      have mid : (tSeq (tAsg (tIf (tTest (tOp rEq (tOp (rI (fun _ j => 0 < j) fun i j => .int (i % j)) (tCB (fun xs H Q => ∃ p ys, xs = [.ref p] ∧ (SqL K H p ys ∨ SqT K H p ys) ∧ Q (.int ys.length) H) (tCons (tVar 6) tNil)) (tC (.int 2))) (tC (.int 1)))) (tVar 7) (tUn (rU fun i => .int (-i)) (tVar 7))) (gName 8))
          (tRet (tTup (tCons (tVar 5) (tCons (tVar 6) (tCons (tIf (tTest (tOp (rNeD K) (tVar 6) (tTup tNil))) (tVar 8) (tC (V.int 1))) tNil))))))
            { nx := fun _ H' => Q .non H', rt := Q } [some (.ref a), some (.ref bu), some (.ref bd), o3, o4, some y1, some (.ref b2), some (.int (signOf (decide ((dp c m).1.1 < (dp c m).2.1)))), none] H' := by
        refine ⟨_, rfl, b2, _, rfl, .inr h2, _, _, rfl, rfl, (by show (0 : Int) < 2; decide), rfl, _, rfl, ?_⟩
        rw [el]
        refine ite2 (fun hp => ?_) (fun hp => ?_)
        · have hp' : (dpTop c m).2.length % 2 = 1 := by
            have := V.int.inj (of_decide_eq_true hp)
            omega
          exact ⟨_, rfl, fin _ _ _ (Same.refl _) (key _ (fun _ => rfl) (fun z => absurd hp' z)) rfl⟩
        · have hp' : ¬ (dpTop c m).2.length % 2 = 1 := fun q => hp (decide_eq_true (congrArg V.int (by show ((dpTop c m).2.length : Int) % 2 = 1; omega)))
          exact ⟨_, rfl, _, rfl, fin _ _ _ (Same.refl _) (key _ (fun z => absurd z hp') (fun _ => rfl)) rfl⟩
      by_cases hc : (dp c m).1.1 < (dp c m).2.1
      · rw [decide_eq_true hc] at mid ⊢
        exact iteT ⟨_, rfl, mid⟩
      · rw [decide_eq_false hc] at mid ⊢
        exact iteF mid
end
end Nw
namespace Nw
open PySem PySem.Spec PyProof.Rows L2 Nd
theorem ty_tup {K : PySem.W.Frag} {H : Hp} {a : Addr} {xs : List V} (h : SqT K H a xs) : TyX K H (.ref a) (.type "tuple") := by
  rcases h with (h | ⟨o, h⟩) | ⟨o, its, n, h1, h2, _⟩
  · exact .base (.tup h)
  · exact .fTuple h
  · exact .kTuple h1 h2
theorem kit_lt {K : PySem.W.Frag} : PySem.W.kitAny K (.type "tuple") [.type "list", .type "tuple"] = some true :=
  kitAny_cons (b := false) (kit_ty (by decide +kernel)) (fun _ => kitAny_cons (b := true) (kit_ty (by decide +kernel)) (fun h => by cases h) (fun _ => rfl)) (fun h => by cases h)
theorem cls_lt : Paired ClsV [V.ty "list", V.ty "tuple"] [Value.type "list", Value.type "tuple"] := .cons (.ty _) (.cons (.ty _) .nil)
theorem all_true {α : Type} {K : PySem.W.Frag} {H : Hp} : ∀ {l : List α} {ys : List V}, Paired (fun _ y => y = V.bl true) l ys → ∃ bs : List Bool, ys = bs.map V.bl ∧ bs.all id = true
  | _, _, .nil => ⟨[], rfl, rfl⟩
  | _, _, .cons h t => by
    obtain ⟨bs, e, g⟩ := all_true (K := K) (H := H) t
    exact ⟨true :: bs, by rw [List.map_cons, h, e], by simpa using g⟩
theorem qT {p : Prop} [Decidable p] {Q : VK} {H : Hp} (h : p) (k : Q (.bl true) H) : Q (.bl (decide p)) H := by rw [decide_eq_true h]; exact k
theorem qF {p : Prop} [Decidable p] {Q : VK} {H : Hp} (h : ¬ p) (k : Q (.bl false) H) : Q (.bl (decide p)) H := by rw [decide_eq_false h]; exact k
theorem dT {p A B : Prop} [Decidable p] (h : p) (k : A) : if decide p = true then A else B := by rw [if_pos (decide_eq_true h)]; exact k
theorem dFa {p A B : Prop} [Decidable p] (h : ¬ p) (k : B) : if decide p = true then A else B := by rw [if_neg (by rw [decide_eq_false h]; decide)]; exact k
theorem yes_ {te : TE} {σ : L2.St} {H : Hp} {Q1 : VK} {Q0 : Hp → Prop} (h : te σ H Q1) : tYes σ H fun b H3 => if b = true then te σ H3 Q1 else Q0 H3 := by
  show if true = true then te σ H Q1 else Q0 H
  rw [if_pos rfl]
  exact h
section
variable {P : Program} {w : World} {K : PySem.W.Frag} {mg : Str → Option Value} {base : Heap}
abbrev N_is_integer : List Str := ["value"]
theorem sc_is_integer : FnScope N_is_integer ["value"] (defScope s_is_integer) := ⟨rfl, rfl, rfl, by decide +kernel, rfl, by decide +kernel, by decide +kernel⟩
def sp_isInt (K : PySem.W.Frag) : Sp := fun vs H Q _ => ∃ n : Int, vs = [.int n] ∧ Q (.bl true) H
theorem O_is_integer (T : Tx K mg) : Ok P w K mg base 1 (He.ga K "is_integer") ["value"] (sp_isInt K) := by
  refine Ok.mk T.f_is_integer sc_is_integer (fun vs H Q E h => ?_) (fun _ _ _ _ _ _ us hl => match us, hl with | [_], _ => rfl) (fun cdv A outer s H vs Q E hr h => ?_)
  · obtain ⟨n, rfl, _⟩ := h; rfl
  · obtain ⟨n, rfl, k⟩ := h
    refine ⟨_, (pss_one (ps_ret (pe_and (pe_callB call_isi (by rfl) T.z_isinstance (by decide +kernel) (pa_cons (pv 0) (pa_cons (pe_bltn (v := .ty "int") (by rfl) T.z_int (by decide +kernel) rfl) pa_nil))) (pe_one (pe_not (pe_callB call_isi (by rfl) T.z_isinstance (by decide +kernel) (pa_cons (pv 0) (pa_cons (pe_bltn (v := .ty "bool") (by rfl) T.z_bool (by decide +kernel) rfl) pa_nil)))))))), ?_⟩
    refine ⟨_, rfl, _, _, _, _, true, rfl, .ty "int", .base (.int n), kit_ty (by decide +kernel), _, rfl, iteT ?_⟩
    exact ⟨_, rfl, _, _, _, _, false, rfl, .ty "bool", .base (.int n), kit_ty (by decide +kernel), _, rfl, k⟩
abbrev N_is_within : List Str := ["value", "least", "most"]
theorem sc_is_within : FnScope N_is_within ["value", "least", "most"] (defScope s_is_within) := ⟨rfl, rfl, rfl, by decide +kernel, rfl, by decide +kernel, by decide +kernel⟩
def oV : Option Int → V
  | none => .non
  | some i => .int i
def sp_within (K : PySem.W.Frag) : Sp := fun vs H Q _ => ∃ (n : Int) (lo hi : Option Int), vs = [.int n, oV lo, oV hi] ∧ (∀ a, lo = some a → a ≤ n) ∧ (∀ b, hi = some b → n ≤ b) ∧ Q (.bl true) H
theorem O_is_within (T : Tx K mg) : Ok P w K mg base 2 (He.ga K "is_within") ["value", "least", "most"] (sp_within K) := by
  have O_is_integer := O_is_integer (P := P) (w := w) (base := base) T
  refine Ok.mk T.f_is_within sc_is_within (fun vs H Q E h => ?_) (fun _ _ _ _ _ _ us hl => match us, hl with | [_, _, _], _ => rfl) (fun cdv A outer s H vs Q E hr h => ?_)
  · obtain ⟨n, lo, hi, rfl, _⟩ := h; rfl
  · obtain ⟨n, lo, hi, rfl, h1, h2, k⟩ := h
    refine ⟨_, (pss_cons (ps_if (pt_not (pt_val (pe_fn O_is_integer (hr.mono (by decide)) T.g_is_integer (pa_cons (pv 0) pa_nil))))
      (pss_one (ps_ret pe_bl))
      pss_nil)
      (pss_one (ps_ret (pe_and (pe_or (pe_cmpR op_isN (pv 1) pe_non (nomark _)) (pe_one (pe_cmpR op_le (pv 1) (pv 0) (nomark _)))) (pe_one (pe_or (pe_cmpR op_isN (pv 2) pe_non (nomark _)) (pe_one (pe_cmpR op_le (pv 0) (pv 2) (nomark _))))))))), ?_⟩
    refine ⟨_, rfl, n, rfl, _, rfl, ?_⟩
    refine iteF ⟨_, rfl, rfl, _, rfl, ?_⟩
    have fin : (tOrV (tOp (fun x y H Q => y = V.non ∧ Q (V.bl (decide (x = V.non))) H) (tVar 2) (tC V.non)) (tOp (rI0 fun i j => V.bl (decide (i ≤ j))) (tVar 0) (tVar 2))) [some (.int n), some (oV lo), some (oV hi)] H Q := by
      cases hi with
      | none => exact ⟨_, rfl, rfl, _, rfl, iteT k⟩
      | some b => exact ⟨_, rfl, rfl, _, rfl, iteF ⟨_, rfl, _, rfl, _, _, rfl, rfl, qT (h2 b rfl) k⟩⟩
    cases lo with
    | none => exact iteT ⟨_, rfl, iteT fin⟩
    | some a => exact iteF ⟨_, rfl, _, rfl, _, _, rfl, rfl, _, rfl, dT (h1 a rfl) fin⟩
abbrev N_are_integers : List Str := ["value", "many", "each"]
theorem sc_are_integers : FnScope N_are_integers ["value", "many"] (defScope s_are_integers) := ⟨rfl, rfl, rfl, by decide +kernel, rfl, by decide +kernel, by decide +kernel⟩
def sp_ints (K : PySem.W.Frag) : Sp := fun vs H Q _ => ∃ (v : V) (ns : List Int) (m : Int), vs = [v, .int m] ∧ Tp K H v (dI ns) ∧ (ns.length : Int) = m ∧ ns.length ≤ 1000 ∧ ∀ H', Same H H' → Q (.bl true) H'
theorem O_are_integers (T : Tx K mg) : Ok P w K mg base 2 (He.ga K "are_integers") ["value", "many"] (sp_ints K) := by
  have O_is_integer := O_is_integer (P := P) (w := w) (base := base) T
  refine Ok.mk T.f_are_integers sc_are_integers (fun vs H Q E h => ?_) (fun _ _ _ _ _ _ us hl => match us, hl with | [_, _], _ => rfl) (fun cdv A outer s H vs Q E hr h => ?_)
  · obtain ⟨v, ns, m, rfl, _⟩ := h; rfl
  · obtain ⟨v, ns, m, rfl, hv, hm, hl, k⟩ := h
    obtain ⟨a, rfl, ha⟩ := tpI_inv hv
    refine ⟨_, (pss_cons (ps_if (PW.pt (pw_or (pt_not (pt_val (pe_callB call_isiT (by rfl) T.z_isinstance (by decide +kernel) (pa_cons (pv 0) (pa_cons (pe_tup (pa_cons (pe_bltn (v := .ty "list") (by rfl) T.z_list (by decide +kernel) rfl) (pa_cons (pe_bltn (v := .ty "tuple") (by rfl) T.z_tuple (by decide +kernel) rfl) pa_nil))) pa_nil))))) (pw_or1 (pt_cmpR op_ne (pe_callB call_len_seq (by rfl) T.z_len (by decide +kernel) (pa_cons (pv 0) pa_nil)) (pv 1) (nomark _)))))
      (pss_one (ps_ret pe_bl))
      pss_nil)
      (pss_one (ps_ret (pe_callB (cr_all rfl) (by rfl) T.z_all (by decide +kernel) (pa_cons (pe_lc (own := [("each", 2)]) rfl sc_are_integers.nd (pi_tup (pv 0)) (blkOk_by (N := N_are_integers) (sc := defScope s_are_integers) (by decide +kernel)) (fun _ _ _ _ _ => (pg_name (i := 2) sc_are_integers.nd rfl (.inl rfl) (by first | exact .inl rfl | exact .inr rfl))) (fun _ _ _ _ _ => pts_nil) (fun _ _ _ _ _ => (pe_fn O_is_integer (hr.mono (by decide)) T.g_is_integer (pa_cons (pv 2) pa_nil)))) pa_nil))))), ?_⟩
    refine ⟨_, rfl, (by show 2 ≤ sizeLine; decide), fun p1 hp1 => ?_⟩
    have s1 : Same H (upd H p1 (.tup [.ty "list", .ty "tuple"])) := same_new hp1
    have ha1 := same_t s1 ha
    refine ⟨_, _, _, _, _, true, rfl, upd_same, cls_lt, ty_tup ha1, kit_lt, _, rfl, ?_⟩
    refine iteF ⟨_, rfl, a, _, rfl, .inr ha1, _, rfl, rfl, _, rfl, ?_⟩
    rw [List.length_map, hm, decide_eq_true rfl]
    refine iteF ⟨_, rfl, a, rfl, ⟨_, ha1⟩, fun D hD => lc_src (Src.tup (xs := ns.map V.int)) (K := K) hD (fun _ y _ => y = .bl true) (fun _ => true) (fun H' s2 => same_t s2 ha1) (fun _ _ _ _ _ h => h) (by rw [List.length_map]; omega) (fun i d x H1 Q1 Q0 s2 hi hx k1 _ => ?_) (fun H2 ys s2 hD2 hp => ?_)⟩
    · subst hx
      rw [List.getElem?_map] at hi
      obtain ⟨n, _, rfl⟩ := Option.map_eq_some_iff.mp hi
      exact ⟨rfl, yes_ ⟨_, rfl, n, rfl, k1 rfl _ _ (Same.refl _) rfl⟩⟩
    · obtain ⟨bs, e, hb⟩ := all_true (K := K) (H := H2) hp
      subst e
      refine ⟨_, _, rfl, SqL.of hD2, ?_⟩
      rw [hb]
      exact k _ (s1.trans s2)
abbrev N_need_number : List Str := ["value", "part", "least", "most"]
theorem sc_need_number : FnScope N_need_number ["value", "part", "least", "most"] (defScope s_need_number) := ⟨rfl, rfl, rfl, by decide +kernel, rfl, by decide +kernel, by decide +kernel⟩
def sp_needNum (K : PySem.W.Frag) : Sp := fun vs H Q _ => ∃ (n : Int) (p : V) (lo hi : Option Int), vs = [.int n, p, oV lo, oV hi] ∧ (∀ a, lo = some a → a ≤ n) ∧ (∀ b, hi = some b → n ≤ b) ∧ Q .non H
theorem O_need_number (T : Tx K mg) : Ok P w K mg base 3 (He.ga K "need_number") ["value", "part", "least", "most"] (sp_needNum K) := by
  have O_is_within := O_is_within (P := P) (w := w) (base := base) T
  refine Ok.mk T.f_need_number sc_need_number (fun vs H Q E h => ?_) (fun _ _ _ _ _ _ us hl => match us, hl with | [_, _, _, _], _ => rfl) (fun cdv A outer s H vs Q E hr h => ?_)
  · obtain ⟨n, p, lo, hi, rfl, _⟩ := h; rfl
  · obtain ⟨n, p, lo, hi, rfl, h1, h2, k⟩ := h
    refine ⟨_, (pss_one (ps_if (pt_not (pt_val (pe_fn O_is_within (hr.mono (by decide)) T.g_is_within (pa_cons (pv 0) (pa_cons (pv 2) (pa_cons (pv 3) pa_nil))))))
      (pss_one ps_never)
      pss_nil)), ?_⟩
    exact ⟨_, rfl, _, rfl, _, rfl, n, lo, hi, rfl, h1, h2, _, rfl, iteF k⟩
/-! heaps -/
abbrev Heaps := List (Int × Int)
def dB (p : Int × Int) : PyData := dI [p.1, p.2]
abbrev dH (hs : Heaps) : PyData := .tuple (hs.map dB)
abbrev FAR : Int := 1000000
abbrev CHIPS : Int := 1000000000000000000000000000000000000000000000000000000000000
structure HOk (hs : Heaps) : Prop where
  len : hs.length ≤ 60
  nd : (hs.map (·.1)).Nodup
  bd : ∀ p ∈ hs, (-FAR ≤ p.1 ∧ p.1 ≤ FAR) ∧ 1 ≤ p.2 ∧ p.2 ≤ CHIPS
structure LOk (ls : List Int) : Prop where
  len : ls.length ≤ 400
  nd : ls.Nodup
  bd : ∀ p ∈ ls, -FAR ≤ p ∧ p ≤ FAR
abbrev N_is_heap : List Str := ["value"]
theorem sc_is_heap : FnScope N_is_heap ["value"] (defScope s_is_heap) := ⟨rfl, rfl, rfl, by decide +kernel, rfl, by decide +kernel, by decide +kernel⟩
def sp_isHeap (K : PySem.W.Frag) : Sp := fun vs H Q _ => ∃ (v : V) (a b : Int), vs = [v] ∧ Tp K H v (dI [a, b]) ∧ (-FAR ≤ a ∧ a ≤ FAR) ∧ 1 ≤ b ∧ b ≤ CHIPS ∧ ∀ H', Same H H' → Q (.bl true) H'
theorem O_is_heap (T : Tx K mg) : Ok P w K mg base 3 (He.ga K "is_heap") ["value"] (sp_isHeap K) := by
  have O_is_within := O_is_within (P := P) (w := w) (base := base) T
  have O_are_integers := O_are_integers (P := P) (w := w) (base := base) T
  refine Ok.mk T.f_is_heap sc_is_heap (fun vs H Q E h => ?_) (fun _ _ _ _ _ _ us hl => match us, hl with | [_], _ => rfl) (fun cdv A outer s H vs Q E hr h => ?_)
  · obtain ⟨v, a, b, rfl, _⟩ := h; rfl
  · obtain ⟨v, a, b, rfl, hv, ha, hb, hc, k⟩ := h
    obtain ⟨q, rfl, hq⟩ := tpI_inv hv
    refine ⟨_, (pss_one (ps_ret (pe_and (pe_fn O_are_integers (hr.mono (by decide)) T.g_are_integers (pa_cons (pv 0) (pa_cons pe_int pa_nil))) (pe_and (pe_fn O_is_within (hr.mono (by decide)) T.g_is_within (pa_cons (pe_ix ix_tup (pv 0) pe_int (fun _ _ => rfl)) (pa_cons (pe_un un_neg (pe_glob (v := .int 1000000) (by rfl) T.i_FARTHEST.choose_spec ⟨_, rfl⟩)) (pa_cons (pe_glob (v := .int 1000000) (by rfl) T.i_FARTHEST.choose_spec ⟨_, rfl⟩) pa_nil)))) (pe_one (pe_fn O_is_within (hr.mono (by decide)) T.g_is_within (pa_cons (pe_ix ix_tup (pv 0) pe_int (fun _ _ => rfl)) (pa_cons pe_int (pa_cons (pe_glob (v := .int 1000000000000000000000000000000000000000000000000000000000000) (by rfl) T.i_MOST_CHIPS.choose_spec ⟨_, rfl⟩) pa_nil))))))))), ?_⟩
    refine ⟨_, rfl, _, [a, b], 2, rfl, hv, rfl, (by show 2 ≤ 1000; decide), fun H1 s1 => ⟨_, rfl, iteT ?_⟩⟩
    have hq1 := same_t s1 hq
    refine ⟨_, rfl, _, _, _, _, rfl, rfl, hq1, rfl, _, rfl, a, some (-1000000), some 1000000, rfl, (fun _ e => by cases e; exact ha.1), (fun _ e => by cases e; exact ha.2), _, rfl, iteT ?_⟩
    exact ⟨_, rfl, _, _, _, _, rfl, rfl, hq1, rfl, b, some 1, some CHIPS, rfl, (fun _ e => by cases e; exact hb), (fun _ e => by cases e; exact hc), k _ s1⟩
abbrev N_are_heaps : List Str := ["value", "spots", "each", "spot", "_"]
theorem sc_are_heaps : FnScope N_are_heaps ["value"] (defScope s_are_heaps) := ⟨rfl, rfl, rfl, by decide +kernel, rfl, by decide +kernel, by decide +kernel⟩
def sp_areHeaps (K : PySem.W.Frag) : Sp := fun vs H Q _ => ∃ (v : V) (hs : Heaps), vs = [v] ∧ Tp K H v (dH hs) ∧ HOk hs ∧ ∀ H', Same H H' → Q (.bl true) H'
theorem O_are_heaps (T : Tx K mg) : Ok P w K mg base 4 (He.ga K "are_heaps") ["value"] (sp_areHeaps K) := by
  have O_is_heap := O_is_heap (P := P) (w := w) (base := base) T
  refine Ok.mk T.f_are_heaps sc_are_heaps (fun vs H Q E h => ?_) (fun _ _ _ _ _ _ us hl => match us, hl with | [_], _ => rfl) (fun cdv A outer s H vs Q E hr h => ?_)
  · obtain ⟨v, hs, rfl, _⟩ := h; rfl
  · obtain ⟨v, hs, rfl, hv, ok, k⟩ := h
    obtain ⟨a, xs, rfl, ha, ht, hxl⟩ := tpL_inv hv
    have hl := ok.len
    refine ⟨_, (pss_cons (ps_if (PW.pt (pw_or (pt_not (pt_val (pe_callB call_isiT (by rfl) T.z_isinstance (by decide +kernel) (pa_cons (pv 0) (pa_cons (pe_tup (pa_cons (pe_bltn (v := .ty "list") (by rfl) T.z_list (by decide +kernel) rfl) (pa_cons (pe_bltn (v := .ty "tuple") (by rfl) T.z_tuple (by decide +kernel) rfl) pa_nil))) pa_nil))))) (pw_or (pt_cmpR op_gt (pe_callB call_len_seq (by rfl) T.z_len (by decide +kernel) (pa_cons (pv 0) pa_nil)) (pe_glob (v := .int 60) (by rfl) T.i_MOST_HEAPS.choose_spec ⟨_, rfl⟩) (nomark _)) (pw_or1 (pt_not (pt_val (pe_callB (cr_all rfl) (by rfl) T.z_all (by decide +kernel) (pa_cons (pe_lc (own := [("each", 2)]) rfl sc_are_heaps.nd (pi_tup (pv 0)) (blkOk_by (N := N_are_heaps) (sc := defScope s_are_heaps) (by decide +kernel)) (fun _ _ _ _ _ => (pg_name (i := 2) sc_are_heaps.nd rfl (.inl rfl) (by first | exact .inl rfl | exact .inr rfl))) (fun _ _ _ _ _ => pts_nil) (fun _ _ _ _ _ => (pe_fn O_is_heap (hr.mono (by decide)) T.g_is_heap (pa_cons (pv 2) pa_nil)))) pa_nil))))))))
      (pss_one (ps_ret pe_bl))
      pss_nil)
      (pss_cons (ps_setLc (i := 1) (own := [("spot", 3), ("_", 4)]) rfl sc_are_heaps.nd rfl rfl (sw_true rfl rfl rfl (by decide +kernel)) (pi_tup (pv 0)) (blkOk_by (N := N_are_heaps) (sc := defScope s_are_heaps) (by decide +kernel)) (fun _ _ _ _ _ => (pg_tupK (K := K) (n := 2) rfl rfl (pgs_cons (pg_name (i := 3) sc_are_heaps.nd rfl (.inl rfl) (by first | exact .inl rfl | exact .inr rfl)) (pgs_cons (pg_name (i := 4) sc_are_heaps.nd rfl (.inl rfl) (by first | exact .inl rfl | exact .inr rfl)) pgs_nil)))) (fun _ _ _ _ _ => pts_nil) (fun _ _ _ _ _ => (pv 3)))
      (pss_one (ps_ret (pe_cmpR op_eq (RZ.pe_lenSetI (by rfl) T.z_len (by rfl) T.z_set (pv 1)) (pe_callB call_len_seq (by rfl) T.z_len (by decide +kernel) (pa_cons (pv 1) pa_nil)) (nomark _)))))), ?_⟩
    refine ⟨_, rfl, (by show 2 ≤ sizeLine; decide), fun p1 hp1 => ?_⟩
    have s1 : Same H (upd H p1 (.tup [.ty "list", .ty "tuple"])) := same_new hp1
    have ha1 := same_t s1 ha
    refine ⟨_, _, _, _, _, true, rfl, upd_same, cls_lt, ty_tup ha1, kit_lt, _, rfl, ?_⟩
    refine iteF ⟨_, rfl, a, _, rfl, .inr ha1, _, _, rfl, rfl, _, rfl, ?_⟩
    refine dFa (by rw [hxl]; omega) ?_
    refine ⟨_, rfl, a, rfl, ⟨_, ha1⟩, fun D hD => lc_src (Src.tp (K := K) (f := dB) (l := hs) (xs := xs)) (K := K) hD (fun _ y _ => y = .bl true) (fun _ => true) (fun H' s2 => ⟨same_t s2 ha1, ht.same (s1.trans s2)⟩) (fun _ _ _ _ _ h => h) (by omega) (fun i d x H1 Q1 Q0 s2 hi hx k1 _ => ?_) (fun H2 ys s2 hD2 hp => ?_)⟩
    · obtain ⟨b1, b2, b3⟩ := ok.bd d (List.mem_of_getElem? hi)
      exact ⟨rfl, yes_ ⟨_, rfl, _, d.1, d.2, rfl, hx, b1, b2, b3, fun H4 s4 => k1 rfl _ _ s4 rfl⟩⟩
    · obtain ⟨bs, e, hb⟩ := all_true (K := K) (H := H2) hp
      subst e
      refine ⟨_, _, rfl, SqL.of hD2, _, rfl, ?_⟩
      rw [hb]
      refine iteF ?_
      have ha2 := same_t s2 ha1
      refine ⟨_, rfl, a, rfl, ⟨_, ha2⟩, fun D hD => lc_src (Src.tp (K := K) (f := dB) (l := hs) (xs := xs)) (K := K) hD (fun d y _ => y = .int d.1) (fun _ => true) (fun H' s3 => ⟨same_t s3 ha2, ht.same ((s1.trans s2).trans s3)⟩) (fun _ _ _ _ _ h => h) (by omega) (fun i d x H1 Q1 Q0 s3 hi hx k1 _ => ?_) (fun H3 ys s3 hD3 hp3 => ?_)⟩
      · obtain ⟨q, rfl, hq⟩ := tpI_inv hx
        exact ⟨q, _, rfl, hq, rfl, _, _, rfl, _, _, rfl, rfl, rfl, yes_ ⟨_, rfl, k1 rfl _ _ (Same.refl _) rfl⟩⟩
      · have e := paired_val (f := fun (d : Int × Int) => V.int d.1) hp3
        rw [List.filter_eq_self.mpr (by simp)] at e
        have e2 : ys = (hs.map (·.1)).map V.int := by rw [e, List.map_map]; rfl
        subst e2
        refine ⟨_, rfl, _, _, rfl, SqL.of hD3, ok.nd, (by rw [List.length_map]; omega), _, rfl, _, _, rfl, .inl (SqL.of hD3), rfl, qT ?_ ?_⟩
        · simp
        · exact k _ ((s1.trans s2).trans s3)
end
end Nw
namespace Nw
open PySem PySem.Spec PyProof.Rows L2 Nd
/-- a def that keeps its promise, called with values for its first parameters only -/
def Okd (P : Program) (w : World) (K : PySem.W.Frag) (mg : Str → Option Value) (base : Heap) (k : Nat) (f : Addr) (ps : List Str) (dvs : List V) (sp : Sp) : Prop :=
  PySem.W.keepIn K (.ref f) = true ∧ ∃ fd ds, FnOk P w K mg base CX0 k f fd ps sp ∧ Binds K fd ps ds ∧ Vals dvs ds
theorem Okd.mono {P : Program} {w : World} {K : PySem.W.Frag} {mg : Str → Option Value} {base : Heap} {j k : Nat} {f : Addr} {ps : List Str} {dvs : List V} {sp : Sp} (o : Okd P w K mg base j f ps dvs sp) (h : j ≤ k) : Okd P w K mg base k f ps dvs sp := by
  obtain ⟨a, fd, ds, b, c⟩ := o
  exact ⟨a, fd, ds, b.mono h, c⟩
theorem pe_fnD {X : Cx} {k : Nat} {f : Addr} {ps : List Str} {dvs : List V} {sp : Sp} {x : Str} {p pos : Pos} {e : Expr} {es : List Expr} {t : TA} (O : Okd X.prog X.w X.K X.mg X.base k f ps dvs sp) (hr : Room k X.A) (hm : X.mg x = some (.ref f)) (ha : PA X (e :: es) t)
    (hg : Gl X x := by rfl) (hdb : (x == ("__debug__" : Str)) = false := by decide) (he : starEach (e :: es) X.env = (false, eval e X.env) :: starEach es X.env := by rfl) (hpl : (backTo pos (starEach es X.env)).any (·.1) = false := by rfl) :
    PE X (.Call (.Name x p) (e :: es) [] pos) (tCall sp dvs E0 t) := by
  obtain ⟨kp, fd, ds, F, b, v⟩ := O
  exact pe_call F hr hg hm kp b v pass0 ha hdb he hpl
/-- the pair that a new tuple holds -/
def kH (H : Hp) (v : V) : Int × Int := match v with
  | .ref t => (match H t with
    | some (.tup [.int a, .int b]) => (a, b)
    | _ => (0, 0))
  | _ => (0, 0)
abbrev isB (K : PySem.W.Frag) : Int × Int → V → Hp → Prop := fun d y H => ∃ t, y = .ref t ∧ H t = some (.tup [.int d.1, .int d.2])
theorem isB_stay {K : PySem.W.Frag} (d : Int × Int) (y : V) (H1 H2 : Hp) (s : Stay K H1 H2) (h : isB K d y H1) : isB K d y H2 := by
  obtain ⟨t, e, h⟩ := h
  exact ⟨t, e, s.2 _ _ h⟩
theorem kH_eq {K : PySem.W.Frag} {H : Hp} {d : Int × Int} {y : V} (h : isB K d y H) : kH H y = d := by
  obtain ⟨t, rfl, h⟩ := h
  show (match H t with
    | some (.tup [.int a, .int b]) => (a, b)
    | _ => ((0 : Int), (0 : Int))) = d
  rw [h]
theorem kH_all {K : PySem.W.Frag} {H : Hp} : ∀ {ds : List (Int × Int)} {ys : List V}, Paired (fun d y => isB K d y H) ds ys → ys.map (kH H) = ds ∧ ∀ y ∈ ys, isB K (kH H y) y H
  | _, _, .nil => ⟨rfl, fun _ h => by cases h⟩
  | _, _, .cons (a := d) (b := y) h t => by
    obtain ⟨e, g⟩ := kH_all t
    have e1 := kH_eq h
    refine ⟨by rw [List.map_cons, e1, e], fun z hz => ?_⟩
    rcases List.mem_cons.mp hz with rfl | hz
    · rw [e1]; exact h
    · exact g z hz
theorem tp_B {K : PySem.W.Frag} {H : Hp} {d : Int × Int} {y : V} (h : isB K d y H) : Tp K H y (dB d) := by
  obtain ⟨t, rfl, h⟩ := h
  exact tpI (ns := [d.1, d.2]) (SqT.of h)
theorem tpAll_B {K : PySem.W.Frag} {H H0 : Hp} : ∀ {ys : List V}, (∀ y ∈ ys, isB K (kH H0 y) y H) → TpAll K H ys ((ys.map (kH H0)).map dB)
  | [], _ => .nil
  | y :: ys, h => .cons (tp_B (h y (List.mem_cons_self ..))) (tpAll_B fun z hz => h z (List.mem_cons_of_mem _ hz))
theorem atI_0 {x : V} {xs : List V} : atI (x :: xs) 0 = some x := atI_nat (j := 0) rfl
/-- heaps: a tuple of pairs, its object told -/
def Hz (K : PySem.W.Frag) (H : Hp) (v : V) (hs : Heaps) : Prop := ∃ a o ps, v = .ref a ∧ o.dict = none ∧ H a = some (.frz o (.tup (ps.map V.ref))) ∧ Paired (fun (p : Addr) (d : Int × Int) => SqT K H p [.int d.1, .int d.2]) ps hs
theorem Hz.same {K : PySem.W.Frag} {H H' : Hp} {v : V} {hs : Heaps} (h : Hz K H v hs) (s : Same H H') : Hz K H' v hs := by
  obtain ⟨a, o, ps, e, d, h, p⟩ := h
  exact ⟨a, o, ps, e, d, s _ _ h, L2.Paired.mapP p fun _ _ q => same_t s q⟩
theorem paired_B {K : PySem.W.Frag} {H : Hp} : ∀ {ps : List Addr} {hs : Heaps}, Paired (fun (p : Addr) (d : Int × Int) => SqT K H p [.int d.1, .int d.2]) ps hs → TpAll K H (ps.map V.ref) (hs.map dB)
  | _, _, .nil => .nil
  | _, _, .cons h t => .cons (tpI (ns := [_, _]) h) (paired_B t)
theorem Hz.tp {K : PySem.W.Frag} {H : Hp} {v : V} {hs : Heaps} (h : Hz K H v hs) : Tp K H v (dH hs) := by
  obtain ⟨a, o, ps, rfl, d, h, p⟩ := h
  exact .tup (.inl (.inr ⟨o, h⟩)) (paired_B p)
theorem refs_isB {K : PySem.W.Frag} {H H0 : Hp} : ∀ {ys : List V}, (∀ y ∈ ys, isB K (kH H0 y) y H) → ∃ ps : List Addr, ys = ps.map V.ref ∧ Paired (fun (p : Addr) (d : Int × Int) => SqT K H p [.int d.1, .int d.2]) ps (ys.map (kH H0))
  | [], _ => ⟨[], rfl, .nil⟩
  | y :: ys, h => by
    obtain ⟨ps, e, p⟩ := refs_isB (ys := ys) fun z hz => h z (List.mem_cons_of_mem _ hz)
    obtain ⟨t, e1, h1⟩ := h y (List.mem_cons_self ..)
    exact ⟨t :: ps, by rw [List.map_cons, ← e, ← e1], .cons (SqT.of h1) p⟩
section
variable {P : Program} {w : World} {K : PySem.W.Frag} {mg : Str → Option Value} {base : Heap}
abbrev N_kept_heaps : List Str := ["value", "spot", "many"]
theorem sc_kept_heaps : FnScope N_kept_heaps ["value"] (defScope s_kept_heaps) := ⟨rfl, rfl, rfl, by decide +kernel, rfl, by decide +kernel, by decide +kernel⟩
def sp_kept (K : PySem.W.Frag) : Sp := fun vs H Q _ => ∃ (v : V) (hs : Heaps), vs = [v] ∧ Tp K H v (dH hs) ∧ hs.length ≤ 1000 ∧ ∀ z H' hs', Same H H' → hs'.Perm hs → Hz K H' z hs' → Q z H'
theorem O_kept_heaps (T : Tx K mg) : Ok P w K mg base 1 (He.ga K "kept_heaps") ["value"] (sp_kept K) := by
  refine Ok.mk T.f_kept_heaps sc_kept_heaps (fun vs H Q E h => ?_) (fun _ _ _ _ _ _ us hl => match us, hl with | [_], _ => rfl) (fun cdv A outer s H vs Q E hr h => ?_)
  · obtain ⟨v, hs, rfl, _⟩ := h; rfl
  · obtain ⟨v, hs, rfl, hv, hl, k⟩ := h
    obtain ⟨a, xs, rfl, ha, ht, hxl⟩ := tpL_inv hv
    refine ⟨_, (pss_one (ps_ret (pe_callTy call_tupZ (by rfl) T.z_tuple (by decide +kernel) (pa_cons (pe_callB cr_sortedPO (by rfl) T.z_sorted (by decide +kernel) (pa_cons (pe_lc (own := [("spot", 1), ("many", 2)]) rfl sc_kept_heaps.nd (pi_tup (pv 0)) (blkOk_by (N := N_kept_heaps) (sc := defScope s_kept_heaps) (by decide +kernel)) (fun _ _ _ _ _ => (pg_tupK (K := K) (n := 2) rfl rfl (pgs_cons (pg_name (i := 1) sc_kept_heaps.nd rfl (.inl rfl) (by first | exact .inl rfl | exact .inr rfl)) (pgs_cons (pg_name (i := 2) sc_kept_heaps.nd rfl (.inl rfl) (by first | exact .inl rfl | exact .inr rfl)) pgs_nil)))) (fun _ _ _ _ _ => pts_nil) (fun _ _ _ _ _ => (pe_tup (pa_cons (pv 1) (pa_cons (pv 2) pa_nil))))) pa_nil)) pa_nil)))), ?_⟩
    refine ⟨_, rfl, a, rfl, ⟨_, ha⟩, fun D hD => lc_src (Src.tp (K := K) (f := dB) (l := hs) (xs := xs)) (K := K) hD (isB K) (fun _ => true) (fun H' s2 => ⟨same_t s2 ha, ht.same s2⟩) isB_stay (by omega) (fun i d x H1 Q1 Q0 s2 hi hx k1 _ => ?_) (fun H2 ys s2 hD2 hp => ?_)⟩
    · obtain ⟨q, rfl, hq⟩ := tpI_inv hx
      refine ⟨q, _, rfl, hq, rfl, _, _, rfl, _, _, rfl, rfl, rfl, yes_ ⟨_, rfl, _, rfl, (by show 2 ≤ sizeLine; decide), fun p hp => ?_⟩⟩
      exact k1 rfl _ _ (same_new hp) ⟨p, rfl, upd_same⟩
    · rw [List.filter_eq_self.mpr (by simp)] at hp
      obtain ⟨e1, e2⟩ := kH_all (K := K) hp
      refine ⟨D, ys, kH H2, rfl, SqL.of hD2, e2, fun zs p g1 g2 hp => ?_⟩
      have pm := g2.perm
      have s3 : Same H2 (upd H2 p (.lst zs)) := same_new hp
      refine ⟨p, zs, rfl, SqL.of upd_same, fun q o hq ho => ?_⟩
      have s4 := s3.trans (same_new (o := .frz o (.tup zs)) hq)
      obtain ⟨ps, ez, pp⟩ := refs_isB (K := K) (H := upd (upd H2 p (.lst zs)) q (.frz o (.tup zs))) (H0 := H2) (ys := zs) fun y hy => by
        obtain ⟨t, e, h⟩ := e2 y (pm.mem_iff.mp hy)
        exact ⟨t, e, s4 _ _ h⟩
      exact k _ _ (zs.map (kH H2)) (s2.trans s4) (by rw [← e1]; exact pm.map _) ⟨q, o, ps, rfl, ho, by rw [← ez]; exact upd_same, pp⟩
abbrev N_colour_in : List Str := ["spots"]
theorem sc_colour_in : FnScope N_colour_in ["spots"] (defScope s_colour_in) := ⟨rfl, rfl, rfl, by decide +kernel, rfl, by decide +kernel, by decide +kernel⟩
def colV : List Int → V
  | [] => .non
  | n :: _ => .int (n % 2)
def sp_colIn (K : PySem.W.Frag) : Sp := fun vs H Q _ => ∃ (a : Addr) (ns : List Int), vs = [.ref a] ∧ SqL K H a (ns.map V.int) ∧ Q (colV ns) H
theorem O_colour_in (T : Tx K mg) : Ok P w K mg base 1 (He.ga K "colour_in") ["spots"] (sp_colIn K) := by
  refine Ok.mk T.f_colour_in sc_colour_in (fun vs H Q E h => ?_) (fun _ _ _ _ _ _ us hl => match us, hl with | [_], _ => rfl) (fun cdv A outer s H vs Q E hr h => ?_)
  · obtain ⟨a, ns, rfl, _⟩ := h; rfl
  · obtain ⟨a, ns, rfl, ha, k⟩ := h
    refine ⟨_, (pss_one (ps_ret (pe_ifExp (pt_cmpR op_gt (pe_callB call_len_seq (by rfl) T.z_len (by decide +kernel) (pa_cons (pv 0) pa_nil)) pe_int (nomark _)) (pe_op op_mod (pe_ix ix_list (pv 0) pe_int (fun _ _ => rfl)) pe_int) pe_non))), ?_⟩
    refine ⟨_, rfl, a, _, rfl, .inl ha, _, _, rfl, rfl, _, rfl, ?_⟩
    cases ns with
    | nil => exact dFa (by show ¬ ((0 : Int) < ((0 : Nat) : Int)); decide) k
    | cons n ns =>
      refine dT (by simp) ⟨_, rfl, _, _, _, V.int n, rfl, rfl, ha, atI_0, _, _, rfl, rfl, (by show (0 : Int) < 2; decide), k⟩
abbrev N_spots_of : List Str := ["heaps", "spot", "_"]
theorem sc_spots_of : FnScope N_spots_of ["heaps"] (defScope s_spots_of) := ⟨rfl, rfl, rfl, by decide +kernel, rfl, by decide +kernel, by decide +kernel⟩
def sp_spots (K : PySem.W.Frag) : Sp := fun vs H Q _ => ∃ (v : V) (hs : Heaps), vs = [v] ∧ Tp K H v (dH hs) ∧ hs.length ≤ 1000 ∧ ∀ a H', Same H H' → SqL K H' a ((hs.map (·.1)).map V.int) → Q (.ref a) H'
theorem O_spots_of (T : Tx K mg) : Ok P w K mg base 1 (He.ga K "spots_of") ["heaps"] (sp_spots K) := by
  refine Ok.mk T.f_spots_of sc_spots_of (fun vs H Q E h => ?_) (fun _ _ _ _ _ _ us hl => match us, hl with | [_], _ => rfl) (fun cdv A outer s H vs Q E hr h => ?_)
  · obtain ⟨v, hs, rfl, _⟩ := h; rfl
  · obtain ⟨v, hs, rfl, hv, hl, k⟩ := h
    obtain ⟨a, xs, rfl, ha, ht, hxl⟩ := tpL_inv hv
    refine ⟨_, (pss_one (ps_ret (pe_lc (own := [("spot", 1), ("_", 2)]) rfl sc_spots_of.nd (pi_tup (pv 0)) (blkOk_by (N := N_spots_of) (sc := defScope s_spots_of) (by decide +kernel)) (fun _ _ _ _ _ => (pg_tupK (K := K) (n := 2) rfl rfl (pgs_cons (pg_name (i := 1) sc_spots_of.nd rfl (.inl rfl) (by first | exact .inl rfl | exact .inr rfl)) (pgs_cons (pg_name (i := 2) sc_spots_of.nd rfl (.inl rfl) (by first | exact .inl rfl | exact .inr rfl)) pgs_nil)))) (fun _ _ _ _ _ => pts_nil) (fun _ _ _ _ _ => (pv 1))))), ?_⟩
    refine ⟨_, rfl, a, rfl, ⟨_, ha⟩, fun D hD => lc_src (Src.tp (K := K) (f := dB) (l := hs) (xs := xs)) (K := K) hD (fun d y _ => y = .int d.1) (fun _ => true) (fun H' s2 => ⟨same_t s2 ha, ht.same s2⟩) (fun _ _ _ _ _ h => h) (by omega) (fun i d x H1 Q1 Q0 s2 hi hx k1 _ => ?_) (fun H2 ys s2 hD2 hp => ?_)⟩
    · obtain ⟨q, rfl, hq⟩ := tpI_inv hx
      exact ⟨q, _, rfl, hq, rfl, _, _, rfl, _, _, rfl, rfl, rfl, yes_ ⟨_, rfl, k1 rfl _ _ (Same.refl _) rfl⟩⟩
    · have e := paired_val (f := fun (d : Int × Int) => V.int d.1) hp
      rw [List.filter_eq_self.mpr (by simp)] at e
      refine k _ _ s2 (SqL.of ?_)
      rw [hD2, e, List.map_map]
      rfl
abbrev N_need_heaps : List Str := ["value", "part"]
theorem sc_need_heaps : FnScope N_need_heaps ["value", "part"] (defScope s_need_heaps) := ⟨rfl, rfl, rfl, by decide +kernel, rfl, by decide +kernel, by decide +kernel⟩
def sp_needHeaps (K : PySem.W.Frag) : Sp := fun vs H Q _ => ∃ (v p : V) (hs : Heaps), vs = [v, p] ∧ Tp K H v (dH hs) ∧ HOk hs ∧ ∀ z H' hs', Same H H' → hs'.Perm hs → Hz K H' z hs' → Q z H'
theorem O_need_heaps (T : Tx K mg) : Ok P w K mg base 5 (He.ga K "need_heaps") ["value", "part"] (sp_needHeaps K) := by
  have O_are_heaps := O_are_heaps (P := P) (w := w) (base := base) T
  have O_kept_heaps := O_kept_heaps (P := P) (w := w) (base := base) T
  refine Ok.mk T.f_need_heaps sc_need_heaps (fun vs H Q E h => ?_) (fun _ _ _ _ _ _ us hl => match us, hl with | [_, _], _ => rfl) (fun cdv A outer s H vs Q E hr h => ?_)
  · obtain ⟨v, p, hs, rfl, _⟩ := h; rfl
  · obtain ⟨v, p, hs, rfl, hv, ok, k⟩ := h
    have hl := ok.len
    refine ⟨_, (pss_cons (ps_if (pt_not (pt_val (pe_fn O_are_heaps (hr.mono (by decide)) T.g_are_heaps (pa_cons (pv 0) pa_nil))))
      (pss_one ps_never)
      pss_nil)
      (pss_one (ps_ret (pe_fn O_kept_heaps (hr.mono (by decide)) T.g_kept_heaps (pa_cons (pv 0) pa_nil))))), ?_⟩
    refine ⟨_, rfl, v, hs, rfl, hv, ok, fun H1 s1 => ⟨_, rfl, iteF ?_⟩⟩
    exact ⟨_, rfl, v, hs, rfl, hv.same s1, by omega, fun z H2 hs' s2 pm tz => k z H2 hs' (s1.trans s2) pm tz⟩
abbrev N_need_colour : List Str := ["spots", "spot"]
theorem sc_need_colour : FnScope N_need_colour ["spots"] (defScope s_need_colour) := ⟨rfl, rfl, rfl, by decide +kernel, rfl, by decide +kernel, by decide +kernel⟩
def sp_needCol (K : PySem.W.Frag) : Sp := fun vs H Q _ => ∃ (a : Addr) (ns : List Int) (c : Int), vs = [.ref a] ∧ SqL K H a (ns.map V.int) ∧ ns.length ≤ 1000 ∧ (∀ n ∈ ns, n % 2 = c) ∧ ∀ H', Same H H' → Q .non H'
theorem O_need_colour (T : Tx K mg) : Ok P w K mg base 2 (He.ga K "need_colour") ["spots"] (sp_needCol K) := by
  have O_colour_in := O_colour_in (P := P) (w := w) (base := base) T
  refine Ok.mk T.f_need_colour sc_need_colour (fun vs H Q E h => ?_) (fun _ _ _ _ _ _ us hl => match us, hl with | [_], _ => rfl) (fun cdv A outer s H vs Q E hr h => ?_)
  · obtain ⟨a, ns, c, rfl, _⟩ := h; rfl
  · obtain ⟨a, ns, c, rfl, ha, hl, hc, k⟩ := h
    refine ⟨_, (pss_one (ps_if (pt_not (pt_val (pe_callB (cr_all rfl) (by rfl) T.z_all (by decide +kernel) (pa_cons (pe_lc (own := [("spot", 1)]) rfl sc_need_colour.nd (pi_list (pv 0)) (blkOk_by (N := N_need_colour) (sc := defScope s_need_colour) (by decide +kernel)) (fun _ _ _ _ _ => (pg_name (i := 1) sc_need_colour.nd rfl (.inl rfl) (by first | exact .inl rfl | exact .inr rfl))) (fun _ _ _ _ _ => pts_nil) (fun _ _ _ _ _ => (pe_cmpR op_eq (pe_op op_mod (pv 1) pe_int) (pe_fn O_colour_in (hr.mono (by decide)) T.g_colour_in (pa_cons (pv 0) pa_nil)) (nomark _)))) pa_nil))))
      (pss_one ps_never)
      pss_nil)), ?_⟩
    refine ⟨_, rfl, a, rfl, ⟨_, ha⟩, fun D hD => lc_src (Src.list (xs := ns.map V.int)) (K := K) hD (fun _ y _ => y = .bl true) (fun _ => true) (fun H' s2 => s2.seq ha) (fun _ _ _ _ _ h => h) (by rw [List.length_map]; omega) (fun i d x H1 Q1 Q0 s2 hi hx k1 _ => ?_) (fun H2 ys s2 hD2 hp => ?_)⟩
    · subst hx
      rw [List.getElem?_map] at hi
      obtain ⟨n, hn, rfl⟩ := Option.map_eq_some_iff.mp hi
      have hm := List.mem_of_getElem? hn
      refine ⟨rfl, yes_ ⟨_, rfl, _, _, rfl, rfl, (by show (0 : Int) < 2; decide), _, rfl, a, ns, rfl, s2.seq ha, ?_⟩⟩
      cases ns with
      | nil => cases hm
      | cons m ns =>
        refine ⟨rfl, qT ?_ (k1 rfl _ _ (Same.refl _) rfl)⟩
        show V.int (n % 2) = V.int (m % 2)
        rw [hc n hm, hc m (List.mem_cons_self ..)]
    · obtain ⟨bs, e, hb⟩ := all_true (K := K) (H := H2) hp
      subst e
      refine ⟨_, _, rfl, SqL.of hD2, _, rfl, ?_⟩
      rw [hb]
      exact iteF (k _ s2)
abbrev N_need_lefts : List Str := ["value", "part", "spot"]
theorem sc_need_lefts : FnScope N_need_lefts ["value", "part"] (defScope s_need_lefts) := ⟨rfl, rfl, rfl, by decide +kernel, rfl, by decide +kernel, by decide +kernel⟩
def sp_needLefts (K : PySem.W.Frag) : Sp := fun vs H Q _ => ∃ (v p : V) (ls : List Int), vs = [v, p] ∧ Tp K H v (dI ls) ∧ LOk ls ∧ ∀ z H' ls', Same H H' → ls'.Perm ls → Tp K H' z (dI ls') → Q z H'
theorem O_need_leftsD (T : Tx K mg) : Okd P w K mg base 3 (He.ga K "need_lefts") ["value", "part"] [.str "lefts"] (sp_needLefts K) := by
  have O_is_within := O_is_within (P := P) (w := w) (base := base) T
  obtain ⟨fd, F⟩ := T.f_need_lefts
  obtain ⟨ds, hds, hb⟩ := F.binds1 (ps := ["value", "part"]) 1 0 (by simp) rfl (fun T kV doc pm an cdv ct us its hu hi => match us, its, hu, hi with | [_], [_], _, _ => ⟨_, rfl, rfl⟩)
  refine ⟨F.kp, fd, ds, F.ok sc_need_lefts (fun vs H Q E h => ?_) (fun cdv A outer s H vs Q E hr h => ?_), hb, hds⟩
  · obtain ⟨v, p, ls, rfl, _⟩ := h; rfl
  · obtain ⟨v, p, ls, rfl, hv, ok, k⟩ := h
    obtain ⟨a, rfl, ha⟩ := tpI_inv hv
    have hl := ok.len
    refine ⟨_, (pss_cons (ps_if (PW.pt (pw_or (pt_not (pt_val (pe_callB call_isiT (by rfl) T.z_isinstance (by decide +kernel) (pa_cons (pv 0) (pa_cons (pe_tup (pa_cons (pe_bltn (v := .ty "list") (by rfl) T.z_list (by decide +kernel) rfl) (pa_cons (pe_bltn (v := .ty "tuple") (by rfl) T.z_tuple (by decide +kernel) rfl) pa_nil))) pa_nil))))) (pw_or1 (pt_cmpR op_gt (pe_callB call_len_seq (by rfl) T.z_len (by decide +kernel) (pa_cons (pv 0) pa_nil)) (pe_glob (v := .int 400) (by rfl) T.i_MOST_LEFTS.choose_spec ⟨_, rfl⟩) (nomark _)))))
      (pss_one ps_never)
      pss_nil)
      (pss_cons (ps_if (PW.pt (pw_or (pt_not (pt_val (pe_callB (cr_all rfl) (by rfl) T.z_all (by decide +kernel) (pa_cons (pe_lc (own := [("spot", 2)]) rfl sc_need_lefts.nd (pi_tup (pv 0)) (blkOk_by (N := N_need_lefts) (sc := defScope s_need_lefts) (by decide +kernel)) (fun _ _ _ _ _ => (pg_name (i := 2) sc_need_lefts.nd rfl (.inl rfl) (by first | exact .inl rfl | exact .inr rfl))) (fun _ _ _ _ _ => pts_nil) (fun _ _ _ _ _ => (pe_fn O_is_within (hr.mono (by decide)) T.g_is_within (pa_cons (pv 2) (pa_cons (pe_un un_neg (pe_glob (v := .int 1000000) (by rfl) T.i_FARTHEST.choose_spec ⟨_, rfl⟩)) (pa_cons (pe_glob (v := .int 1000000) (by rfl) T.i_FARTHEST.choose_spec ⟨_, rfl⟩) pa_nil)))))) pa_nil)))) (pw_or1 (pt_cmpR op_lt (pe_lenSetT (by rfl) T.z_len (by rfl) T.z_set (pv 0)) (pe_callB call_len_seq (by rfl) T.z_len (by decide +kernel) (pa_cons (pv 0) pa_nil)) (nomark _)))))
      (pss_one ps_never)
      pss_nil)
      (pss_one (ps_ret (pe_callTy call_tuple_of (by rfl) T.z_tuple (by decide +kernel) (pa_cons (pe_callB cr_sortedTI (by rfl) T.z_sorted (by decide +kernel) (pa_cons (pv 0) pa_nil)) pa_nil)))))), ?_⟩
    refine ⟨_, rfl, (by show 2 ≤ sizeLine; decide), fun p1 hp1 => ?_⟩
    have s1 : Same H (upd H p1 (.tup [.ty "list", .ty "tuple"])) := same_new hp1
    have ha1 := same_t s1 ha
    refine ⟨_, _, _, _, _, true, rfl, upd_same, cls_lt, ty_tup ha1, kit_lt, _, rfl, ?_⟩
    refine iteF ⟨_, rfl, a, _, rfl, .inr ha1, _, _, rfl, rfl, _, rfl, ?_⟩
    refine dFa (by rw [List.length_map]; omega) ?_
    refine ⟨_, rfl, a, rfl, ⟨_, ha1⟩, fun D hD => lc_src (Src.tup (K := K) (xs := ls.map V.int)) (K := K) hD (fun _ y _ => y = .bl true) (fun _ => true) (fun H' s2 => same_t s2 ha1) (fun _ _ _ _ _ h => h) (by rw [List.length_map]; omega) (fun i d x H1 Q1 Q0 s2 hi hx k1 _ => ?_) (fun H2 ys s2 hD2 hp => ?_)⟩
    · subst hx
      rw [List.getElem?_map] at hi
      obtain ⟨n, hn, rfl⟩ := Option.map_eq_some_iff.mp hi
      obtain ⟨b1, b2⟩ := ok.bd n (List.mem_of_getElem? hn)
      exact ⟨rfl, yes_ ⟨_, rfl, _, rfl, n, some (-1000000), some 1000000, rfl, (fun _ e => by cases e; exact b1), (fun _ e => by cases e; exact b2), k1 rfl _ _ (Same.refl _) rfl⟩⟩
    · obtain ⟨bs, e, hb2⟩ := all_true (K := K) (H := H2) hp
      subst e
      refine ⟨_, _, rfl, SqL.of hD2, _, rfl, ?_⟩
      rw [hb2]
      have ha2 := same_t s2 ha1
      refine iteF ⟨_, rfl, a, ls, rfl, ha2, ok.nd, by omega, _, rfl, a, _, rfl, .inr ha2, _, _, rfl, rfl, _, rfl, ?_⟩
      refine dFa (by rw [List.length_map]; omega) ?_
      refine ⟨_, rfl, a, ls, rfl, ha2, fun ls' q pm _ hq => ⟨q, _, rfl, .inl ⟨SqL.of upd_same, fun r hr => ?_⟩⟩⟩
      refine k _ _ ls' ((s1.trans s2).trans ((same_new hq).trans (same_new hr))) pm (tpI (SqT.of upd_same))
abbrev N_need_start : List Str := ["heaps", "lefts", "found", "hands"]
theorem sc_need_start : FnScope N_need_start ["heaps", "lefts"] (defScope s_need_start) := ⟨rfl, rfl, rfl, by decide +kernel, rfl, by decide +kernel, by decide +kernel⟩
def sp_needStart (K : PySem.W.Frag) : Sp := fun vs H Q _ => ∃ (v u : V) (hs : Heaps) (ls : List Int) (c : Int), vs = [v, u] ∧ Tp K H v (dH hs) ∧ Tp K H u (dI ls) ∧ HOk hs ∧ LOk ls ∧ (∀ p ∈ hs, p.1 % 2 = c) ∧
  ∀ a H' y z hs' ls', Same H H' → SqT K H' a [y, z] → hs'.Perm hs → ls'.Perm ls → Hz K H' y hs' → Tp K H' z (dI ls') → Q (.ref a) H'
theorem O_need_start (T : Tx K mg) : Ok P w K mg base 6 (He.ga K "need_start") ["heaps", "lefts"] (sp_needStart K) := by
  have O_need_heaps := O_need_heaps (P := P) (w := w) (base := base) T
  have O_need_leftsD := O_need_leftsD (P := P) (w := w) (base := base) T
  have O_need_colour := O_need_colour (P := P) (w := w) (base := base) T
  have O_spots_of := O_spots_of (P := P) (w := w) (base := base) T
  refine Ok.mk T.f_need_start sc_need_start (fun vs H Q E h => ?_) (fun _ _ _ _ _ _ us hl => match us, hl with | [_, _], _ => rfl) (fun cdv A outer s H vs Q E hr h => ?_)
  · obtain ⟨v, u, hs, ls, c, rfl, _⟩ := h; rfl
  · obtain ⟨v, u, hs, ls, c, rfl, hv, hu, hok, lok, hc, k⟩ := h
    have hl := hok.len
    refine ⟨_, (pss_cons (ps_par (i := 2) (j := 3) rfl sc_need_start.nd rfl rfl (by decide) rfl rfl (pa_cons (pe_fn O_need_heaps (hr.mono (by decide)) T.g_need_heaps (pa_cons (pv 0) (pa_cons pe_str pa_nil))) (pa_cons (pe_fnD O_need_leftsD (hr.mono (by decide)) T.g_need_lefts (pa_cons (pv 1) pa_nil)) pa_nil)) (by rfl))
      (pss_cons (ps_expr (pe_fn O_need_colour (hr.mono (by decide)) T.g_need_colour (pa_cons (pe_fn O_spots_of (hr.mono (by decide)) T.g_spots_of (pa_cons (pv 2) pa_nil)) pa_nil)))
      (pss_one (ps_ret (pe_tup (pa_cons (pv 2) (pa_cons (pv 3) pa_nil))))))), ?_⟩
    refine ⟨_, rfl, _, _, hs, rfl, hv, hok, fun y H1 hs' s1 pm1 ty => ?_⟩
    refine ⟨_, rfl, _, _, ls, rfl, hu.same s1, lok, fun z H2 ls' s2 pm2 tz => ?_⟩
    refine ⟨_, _, rfl, ?_⟩
    have hl2 : hs'.length ≤ 1000 := by rw [pm1.length_eq]; omega
    refine ⟨_, rfl, _, hs', rfl, (ty.same s2).tp, hl2, fun a H3 s3 h3 => ?_⟩
    refine ⟨a, _, c, rfl, h3, by rw [List.length_map]; exact hl2, fun n hn => ?_, fun H4 s4 => ?_⟩
    · obtain ⟨p, hp, rfl⟩ := List.mem_map.mp hn
      exact hc p (pm1.mem_iff.mp hp)
    · refine ⟨_, rfl, _, rfl, (by show 2 ≤ sizeLine; decide), fun q hq => ?_⟩
      have s5 : Same H4 (upd H4 q (.tup [y, z])) := same_new hq
      exact k _ _ y z hs' ls' ((s1.trans s2).trans ((s3.trans s4).trans s5)) (SqT.of upd_same) pm1 pm2 (ty.same (s2.trans (s3.trans (s4.trans s5)))) (tz.same (s3.trans (s4.trans s5)))
end
end Nw
namespace Nw
open PySem PySem.Spec PyProof.Rows L2 Nd
/-! tables as dicts -/
theorem valV_tab {f : Int → V} {k : Int} : ∀ {L : Tab}, valV (tabV f L) (Sum.inl k : Key) = (lookI L k).map f
  | [] => rfl
  | p :: L => by
    show valV ((Sum.inl p.1, f p.2) :: tabV f L) _ = _
    unfold lookI
    by_cases e : p.1 = k
    · rw [valV_pos (by rw [e]), if_pos e]; rfl
    · rw [valV_neg (fun h => e (Sum.inl.inj h)), if_neg e]; exact valV_tab
theorem putK_tab {f : Int → V} {k v : Int} {L : Tab} : putK (tabV f L) (Sum.inl k : Key) (f v) = tabV f (putI L k v) := by
  have e1 : ((tabV f L).any fun kv => decide (kv.1 = (Sum.inl k : Key))) = hasI L k := by
    unfold hasI
    rw [List.any_map]
    congr 1
    funext p
    show decide ((Sum.inl p.1 : Key) = Sum.inl k) = decide (p.1 = k)
    exact decide_eq_decide.mpr ⟨fun h => Sum.inl.inj h, fun h => by rw [h]⟩
  unfold putK putI
  rw [e1]
  by_cases h : hasI L k = true
  · rw [if_pos h, if_pos h]
    unfold tabV
    rw [List.map_map, List.map_map]
    refine List.map_congr_left fun p _ => ?_
    show (if (Sum.inl p.1 : Key) = Sum.inl k then ((Sum.inl p.1 : Key), f v) else (Sum.inl p.1, f p.2)) = (Sum.inl (if p.1 = k then (p.1, v) else p).1, f (if p.1 = k then (p.1, v) else p).2)
    by_cases e : p.1 = k
    · rw [if_pos (by rw [e]), if_pos e]
    · rw [if_neg (fun h => e (Sum.inl.inj h)), if_neg e]
  · rw [if_neg h, if_neg h]
    unfold tabV
    rw [List.map_append]; rfl
theorem dropK_tab {f : Int → V} {k : Int} {L : Tab} : dropK (tabV f L) (Sum.inl k : Key) = tabV f (L.filter fun p => decide (p.1 ≠ k)) := by
  unfold dropK
  rw [List.filter_map]
  congr 1
  refine List.filter_congr fun p _ => ?_
  show decide ((Sum.inl p.1 : Key) ≠ Sum.inl k) = decide (p.1 ≠ k)
  exact decide_eq_decide.mpr ⟨fun h e => h (by rw [e]), fun h e => h (Sum.inl.inj e)⟩
theorem hasI_snoc {L : Tab} {k : Int} (h : k ∉ L.map (·.1)) (v : Int) : putI L k v = L ++ [(k, v)] := by
  unfold putI
  rw [if_neg (fun e => h (hasI_mem.mp e))]
theorem mergeK_go {f : Int → V} : ∀ {M L : Tab}, ((L ++ M).map (·.1)).Nodup → mergeK (tabV f L) (tabV f M) = tabV f (L ++ M)
  | [], L, _ => by rw [List.append_nil]; rfl
  | p :: M, L, h => by
    show mergeK (putK (tabV f L) (Sum.inl p.1) (f p.2)) (tabV f M) = _
    rw [putK_tab]
    have hn : p.1 ∉ L.map (·.1) := by
      rw [List.map_append] at h
      have := (List.nodup_append.mp h).2.2
      intro e
      exact this _ e p.1 (by simp) rfl
    rw [hasI_snoc hn]
    have e : L ++ p :: M = (L ++ [(p.1, p.2)]) ++ M := by simp
    rw [e] at h ⊢
    exact mergeK_go h
theorem mergeK_tab {f : Int → V} {L : Tab} (h : (L.map (·.1)).Nodup) : mergeK [] (tabV f L) = tabV f L := by
  have := mergeK_go (f := f) (L := []) (M := L) (by simpa using h)
  simpa using this
theorem dg_tab {H : Hp} {a : Addr} {f : Int → V} {L : Tab} {k : Int} (e : H a = some (.dK (tabV f L))) : DGet H a (.int k) ((lookI L k).map f) := by
  rw [← valV_tab]
  exact DGet.k (k := Sum.inl k) e
theorem dp_tab {H : Hp} {a : Addr} {f : Int → V} {L : Tab} {k v : Int} (e : H a = some (.dK (tabV f L))) (hl : L.length ≤ 1000000) : DPut H a (.int k) (f v) (upd H a (.dK (tabV f (putI L k v)))) := by
  rw [← putK_tab]
  exact DPut.k (k := Sum.inl k) e (by rw [List.length_map]; exact Nat.lt_of_le_of_lt hl (by decide))
theorem isd_tab {H : Hp} {a : Addr} {kvs : List (Key × V)} (e : H a = some (.dK kvs)) : IsD H a := .inl ⟨_, .of e⟩
theorem getD_tab {L : Tab} {k : Int} : ((lookI L k).map V.int).getD (.int 0) = .int (gets L k) := by
  unfold gets
  cases lookI L k <;> rfl
abbrev vB (n : Int) : V := .bl (decide (n ≠ 0))
/-- a set told by a dict of True -/
abbrev onT (ls : List Int) : Tab := ls.map fun l => (l, 1)
theorem look_on {k : Int} : ∀ {ls : List Int}, (lookI (onT ls) k).isSome = isIn ls k
  | [] => rfl
  | l :: ls => by
    show (lookI ((l, 1) :: onT ls) k).isSome = _
    unfold lookI isIn
    by_cases e : l = k
    · rw [if_pos e]; simp [e]
    · rw [if_neg e, look_on]
      unfold isIn
      refine decide_eq_decide.mpr ⟨fun h => List.mem_cons_of_mem _ h, fun h => ?_⟩
      rcases List.mem_cons.mp h with h | h
      · exact absurd h.symm e
      · exact h
theorem on_put {ls : List Int} {l : Int} (h : l ∉ ls) : putI (onT ls) l 1 = onT (ls ++ [l]) := by
  rw [hasI_snoc (by unfold onT; rw [List.map_map]; simpa using h)]
  unfold onT
  rw [List.map_append]; rfl
theorem yesD {tk tv : TE} {σ : L2.St} {H : Hp} {Q2 : V → V → Hp → Prop} {Q0 : Hp → Prop} (h : tk σ H fun y H4 => tv σ H4 fun z H5 => Q2 y z H5) : tYes σ H fun b H3 => if b = true then tk σ H3 fun y H4 => tv σ H4 fun z H5 => Q2 y z H5 else Q0 H3 := by
  show if true = true then _ else Q0 H
  rw [if_pos rfl]
  exact h
/-- a dict comprehension over such: the table by the turn -/
theorem dc_src {α : Type} {J : It} {G : Hp → Prop} {ds : List α} {F : α → V → Hp → Prop} (S : Src J G ds F) {g : TG} {tt : TT} {tk tv : TE} {vs : List Nat} {σ : L2.St} {H : Hp} {D : Addr} {Qd : Hp → Prop} (hD : H D = none) (f : Int → V) (Tn : Nat → Tab) (h0 : Tn 0 = [])
    (hG : ∀ H', Same H H' → G H') (hz : ds.length ≤ 1000000) (hl : ∀ i, i ≤ ds.length → (Tn i).length ≤ 1000000)
    (step : ∀ (i : Nat) (d : α) (x : V) (H1 : Hp) (Q2 : V → V → Hp → Prop) (Q0 : Hp → Prop), Same H H1 → ds[i]? = some d → F d x H1 → (∀ k v H4, Same H1 H4 → putI (Tn i) k v = Tn (i + 1) → Q2 (.int k) (f v) H4) →
      g x (wipe σ vs) H1 fun σ2 H2 => wipe σ2 vs = wipe σ vs ∧ tt σ2 H2 fun b H3 => if b = true then tk σ2 H3 fun y H4 => tv σ2 H4 fun z H5 => Q2 y z H5 else Q0 H3)
    (k : ∀ H', Same H H' → H' D = some (.dK (tabV f (Tn ds.length))) → Qd H') :
    ∃ W : Nat → Nat → Hp → Prop, (∃ m, W 0 m (upd H D (.dK []))) ∧ ∀ i m H, W i m H →
      (J.stop i H ∧ Qd H) ∨ (J.go i H ∧ ∃ Nx : Hp → Prop, (∀ H', Nx H' → ∃ m', m' < m ∧ W (i + 1) m' H') ∧ ∀ x H', J.yld i H x H' → g x (wipe σ vs) H' fun σ2 H2 => wipe σ2 vs = wipe σ vs ∧ tt σ2 H2 fun b H3 =>
        if b = true then tk σ2 H3 fun y H4 => tv σ2 H4 fun z H5 => ∃ kvs k, y = kV k ∧ H5 D = some (.dK kvs) ∧ kvs.length < sizeLine ∧ Nx (upd H5 D (.dK (putK kvs k z))) else Nx H3) := by
  let Pv : Nat → Hp → Prop := fun i H' => Same H H' ∧ H' D = some (.dK (tabV f (Tn i)))
  refine ⟨fun i m H' => i ≤ ds.length ∧ m = ds.length - i ∧ Pv i H', ⟨_, Nat.zero_le _, rfl, same_new hD, by rw [upd_same, h0]; rfl⟩, ?_⟩
  rintro i m H' ⟨hi, rfl, s, hy⟩
  have g0 := hG H' s
  by_cases e : i = ds.length
  · subst e
    exact .inl ⟨S.stop H' g0, k H' s hy⟩
  · have hlt : i < ds.length := by omega
    refine .inr ⟨S.go i H' g0 hlt, Pv (i + 1), fun H2 h => ⟨ds.length - (i + 1), by omega, by omega, rfl, h⟩, fun x H1 y => ?_⟩
    have ed : ds[i]? = some ds[i] := List.getElem?_eq_getElem hlt
    obtain ⟨s1, f1⟩ := S.yld i _ x H' H1 g0 ed y
    refine step i _ x H1 _ (Pv (i + 1)) (s.trans s1) ed f1 (fun k v H4 s4 e4 => ?_)
    have hD4 : H4 D = some (.dK (tabV f (Tn i))) := s4 _ _ (s1 _ _ hy)
    refine ⟨_, Sum.inl k, rfl, hD4, ?_, same_put ((s.trans s1).trans s4) hD, ?_⟩
    · rw [List.length_map]; exact Nat.lt_of_le_of_lt (hl i (by omega)) (by decide)
    · rw [upd_same, putK_tab, e4]
end Nw
namespace Nw
open PySem PySem.Spec PyProof.Rows L2 Nd
/-- what a line at one spot sends -/
def dSent (ls : List Int) (p : Int × Int) : PyData := dI [p.1, sentL ls p, p.2 - sentL ls p]
theorem ty_list {K : PySem.W.Frag} {H : Hp} {a : Addr} {xs : List V} (h : H a = some (.lst xs)) : tyV K "list" (.ref a) H := .inl ⟨rfl, xs, SqL.of h⟩
theorem c_div2 {i : Int} : CDiv i 2 := ⟨by decide, by decide⟩
theorem none_back {H H' : Hp} {p : Addr} (s : Same H H') (h : H' p = none) : H p = none := by
  cases e : H p with
  | none => rfl
  | some o => rw [s _ _ e] at h; cases h
section
variable {P : Program} {w : World} {K : PySem.W.Frag} {mg : Str → Option Value} {base : Heap}
abbrev N_sent_on : List Str := ["heaps", "lefts", "shown", "found", "spot", "many", "more"]
theorem sc_sent_on : FnScope N_sent_on ["heaps", "lefts"] (defScope s_sent_on) := ⟨rfl, rfl, rfl, by decide +kernel, rfl, by decide +kernel, by decide +kernel⟩
def sp_sent (K : PySem.W.Frag) : Sp := fun vs H Q _ => ∃ (v u : V) (hs : Heaps) (ls : List Int), vs = [v, u] ∧ Tp K H v (dH hs) ∧ Tp K H u (dI ls) ∧ ls.Nodup ∧ hs.length ≤ 1000000 ∧ ls.length ≤ 1000000 ∧
  ∀ z H', Same H H' → Lp K H' z (hs.map (dSent ls)) → Q z H'
theorem O_sent_on (T : Tx K mg) : Ok P w K mg base 1 (He.ga K "sent_on") ["heaps", "lefts"] (sp_sent K) := by
  refine Ok.mk T.f_sent_on sc_sent_on (fun vs H Q E h => ?_) (fun _ _ _ _ _ _ us hl => match us, hl with | [_, _], _ => rfl) (fun cdv A outer s H vs Q E hr h => ?_)
  · obtain ⟨v, u, hs, ls, rfl, _⟩ := h; rfl
  · obtain ⟨v, u, hs, ls, rfl, hv, hu', hnd, hl1, hl2, k⟩ := h
    obtain ⟨a, xs, rfl, ha, ht, hxl⟩ := tpL_inv hv
    obtain ⟨b, rfl, hb⟩ := tpI_inv hu'
    have hu := Nat.lt_of_le_of_lt (Nat.add_le_add_left (by decide : 1 ≤ 64) _) hr.units
    refine ⟨_, (pss_cons (ps_par (i := 2) (j := 3) rfl sc_sent_on.nd rfl rfl (by decide) rfl rfl (pa_cons (pe_dc (own := [("spot", 4)]) rfl sc_sent_on.nd (pi_tup (pv 1)) (blkOk_by (N := N_sent_on) (sc := defScope s_sent_on) (by decide +kernel)) (fun _ _ _ _ _ => (pg_name (i := 4) sc_sent_on.nd rfl (.inl rfl) (by first | exact .inl rfl | exact .inr rfl))) (fun _ _ _ _ _ => pts_nil) (fun _ _ _ _ _ => (pv 4)) (fun _ _ _ _ _ => pe_bl)) (pa_cons (pe_lst pa_nil) pa_nil)) (by rfl))
      (pss_cons (ps_for PassesOwn.never rfl (pi_tup (pv 0)) (pg_tup rfl (pgs_cons (pg_name (i := 4) sc_sent_on.nd rfl (.inl rfl) (by first | exact .inl rfl | exact .inr rfl)) (pgs_cons (pg_name (i := 5) sc_sent_on.nd rfl (.inl rfl) (by first | exact .inl rfl | exact .inr rfl)) pgs_nil)))
      (pss_cons (ps_set (i := 6) sc_sent_on.nd rfl (.inl rfl) (pe_op op_sub (pv 5) (pe_op op_fdiv (pv 5) pe_int)))
      (pss_one (ps_expr (pe_bm PySem.F.plainAttrs_list PySem.F.slot_list_append PySem.F.type_list_append mt_append (pv 3) (pa_cons (pe_ifExp (pt_cmp (pc_din hu (pv 4) (pv 2))) (pe_tup (pa_cons (pv 4) (pa_cons (pv 6) (pa_cons (pe_op op_fdiv (pv 5) pe_int) pa_nil)))) (pe_tup (pa_cons (pv 4) (pa_cons (pe_op op_fdiv (pv 5) pe_int) (pa_cons (pv 6) pa_nil))))) pa_nil))))))
      (pss_one (ps_ret (pv 3))))), ?_⟩
    refine ⟨_, rfl, b, rfl, ⟨_, hb⟩, fun D hD => dc_src (Src.tup (K := K) (xs := ls.map V.int)) hD vB (fun i => onT (ls.take i)) rfl (fun H' s => same_t s hb) (by rw [List.length_map]; exact hl2) (fun i hi => by rw [List.length_map, List.length_take]; omega) (fun i d x H1 Q2 Q0 s1 hi hx k1 => ?_) (fun H1 s1 hD1 => ?_)⟩
    · subst hx
      rw [List.getElem?_map] at hi
      obtain ⟨l, hl, rfl⟩ := Option.map_eq_some_iff.mp hi
      refine ⟨rfl, yesD ⟨_, rfl, k1 l 1 H1 (Same.refl _) ?_⟩⟩
      have e : ls.take (i + 1) = ls.take i ++ [l] := by rw [List.take_succ, hl]; rfl
      rw [e]
      refine on_put ?_
      intro hm
      obtain ⟨j, hj, ej⟩ := List.mem_iff_getElem.mp hm
      rw [List.length_take] at hj
      rw [List.getElem_take] at ej
      obtain ⟨hi1, hi2⟩ := List.getElem?_eq_some_iff.mp hl
      have ne := List.pairwise_iff_getElem.mp (List.nodup_iff_pairwise_ne.mp hnd) j i (by omega) hi1 (by omega)
      exact ne (ej.trans hi2.symm)
    · rw [List.length_map, List.take_length] at hD1
      refine ⟨Nat.zero_le _, fun F hF => ⟨_, _, rfl, ?_⟩⟩
      have s2 : Same H (upd H1 F (.lst [])) := s1.trans (same_new hF)
      have hF0 : H F = none := none_back s1 hF
      refine ⟨_, rfl, a, rfl, ⟨_, same_t s2 ha⟩, for_src (Src.tp (K := K) (f := dB) (l := hs) (xs := xs)) (fun i σ H' => ∃ o4 o5 o6, σ = [some (.ref a), some (.ref b), some (.ref D), some (.ref F), o4, o5, o6] ∧ Same H H' ∧ H' D = some (.dK (tabV vB (onT ls))) ∧ ∃ ys, H' F = some (.lst ys) ∧ TpAll K H' ys ((hs.take i).map (dSent ls))) ?_ ?_ ?_ ?_⟩
      · exact ⟨_, _, _, rfl, s2, by rw [upd_ne (ne_of_none hD1 hF)]; exact hD1, [], upd_same, .nil⟩
      · rintro i σ H' _ ⟨_, _, _, _, s3, _⟩
        exact ⟨same_t s3 ha, ht.same s3⟩
      · rintro i d x σ H2 H3 hi ⟨o4, o5, o6, rfl, s3, hD2, ys, hF2, hys⟩ s4 hx
        obtain ⟨q, rfl, hq⟩ := tpI_inv hx
        refine ⟨q, _, rfl, hq, rfl, _, _, rfl, _, _, rfl, rfl, ?_⟩
        refine ⟨_, rfl, _, rfl, _, _, rfl, rfl, c_div2, _, _, rfl, rfl, ?_⟩
        have hF3 := s4 _ _ hF2
        refine ⟨_, rfl, ty_list hF3, _, rfl, _, rfl, D, _, rfl, dg_tab (s4 _ _ hD2), ?_⟩
        have e : hs.take (i + 1) = hs.take i ++ [d] := by rw [List.take_succ, hi]; rfl
        have hyl : ys.length ≤ 1000000 := by
          have := hys.length
          rw [List.length_map, List.length_take] at this
          omega
        have fin : ∀ (p : Addr) (x y : Int), H3 p = none → x = sentL ls d → y = d.2 - sentL ls d → Same H (upd (upd H3 p (.tup [.int d.1, .int x, .int y])) F (.lst (ys ++ [.ref p]))) ∧
            (upd (upd H3 p (.tup [.int d.1, .int x, .int y])) F (.lst (ys ++ [.ref p]))) D = some (.dK (tabV vB (onT ls))) ∧ ∃ zs, (upd (upd H3 p (.tup [.int d.1, .int x, .int y])) F (.lst (ys ++ [.ref p]))) F = some (.lst zs) ∧ TpAll K (upd (upd H3 p (.tup [.int d.1, .int x, .int y])) F (.lst (ys ++ [.ref p]))) zs ((hs.take (i + 1)).map (dSent ls)) := by
          intro p x y hp ex ey
          have s5 : Same H3 (upd H3 p (.tup [.int d.1, .int x, .int y])) := same_new hp
          have hF4 := s5 _ _ hF3
          have st : Stay K (upd H3 p (.tup [.int d.1, .int x, .int y])) (upd (upd H3 p (.tup [.int d.1, .int x, .int y])) F (.lst (ys ++ [.ref p]))) := .lst hF4
          have hDF : D ≠ F := ne_of (s4 _ _ hD2) hF3 (by simp)
          refine ⟨same_put ((s3.trans s4).trans s5) hF0, by rw [upd_ne hDF]; exact s5 _ _ (s4 _ _ hD2), _, upd_same, ?_⟩
          rw [e, List.map_append]
          refine ((hys.same (s4.trans s5)).stay st).snoc (Tp.stay st ?_)
          rw [ex, ey]
          exact tpI (ns := [d.1, sentL ls d, d.2 - sentL ls d]) (SqT.of upd_same)
        have b01 : isIn ls d.1 = true ∨ isIn ls d.1 = false := by cases isIn ls d.1 <;> simp
        refine ⟨_, rfl, ?_⟩
        have small : ys.length < sizeLine := Nat.lt_of_le_of_lt hyl (by decide)
        have es : ((lookI (onT ls) d.1).map vB).isSome = isIn ls d.1 := by rw [Option.isSome_map, look_on]
        rw [es]
        rcases b01 with hb1 | hb1 <;> rw [hb1]
        · refine iteT ⟨_, rfl, _, rfl, _, rfl, _, _, rfl, rfl, c_div2, (by show 3 ≤ sizeLine; decide), fun p hp => ?_⟩
          have s5 : Same H3 (upd H3 p (.tup [.int d.1, .int (d.2 - d.2 / 2), .int (d.2 / 2)])) := same_new hp
          obtain ⟨q1, q2, q3⟩ := fin p (d.2 - d.2 / 2) (d.2 / 2) hp (by unfold sentL; rw [hb1]; show _ = (d.2 + 1) / 2; omega) (by unfold sentL; rw [hb1]; show _ = d.2 - (d.2 + 1) / 2; omega)
          exact ⟨F, ys, _, rfl, rfl, s5 _ _ hF3, small, _, _, _, rfl, q1, q2, q3⟩
        · refine iteF ⟨_, rfl, _, rfl, _, _, rfl, rfl, c_div2, _, rfl, (by show 3 ≤ sizeLine; decide), fun p hp => ?_⟩
          have s5 : Same H3 (upd H3 p (.tup [.int d.1, .int (d.2 / 2), .int (d.2 - d.2 / 2)])) := same_new hp
          obtain ⟨q1, q2, q3⟩ := fin p (d.2 / 2) (d.2 - d.2 / 2) hp (by unfold sentL; rw [hb1]; show _ = (d.2 + 0) / 2; omega) (by unfold sentL; rw [hb1]; show _ = d.2 - (d.2 + 0) / 2; omega)
          exact ⟨F, ys, _, rfl, rfl, s5 _ _ hF3, small, _, _, _, rfl, q1, q2, q3⟩
      · rintro σ H' ⟨o4, o5, o6, rfl, s3, hD2, ys, hF2, hys⟩
        refine ⟨_, rfl, k _ _ s3 ⟨F, ys, rfl, SqL.of hF2, ?_⟩⟩
        rw [List.take_length] at hys
        exact hys
end
/-! an own class made, a method called -/
theorem pe_mk {X : Cx} {k : Nat} {C f : Addr} {ps : List Str} {sp : Sp} {x : Str} {p pos : Pos} {e : Expr} {es : List Expr} {t : TA} (O : Ok X.prog X.w X.K X.mg X.base k f ps sp) (M : Mk X.K C f) (hr : Room (k + 1) X.A) (hm : X.mg x = some (.ref C)) (ha : PA X (e :: es) t)
    (hg : Gl X x := by rfl) (hdb : (x == ("__debug__" : Str)) = false := by decide) (he : starEach (e :: es) X.env = (false, eval e X.env) :: starEach es X.env := by rfl) (hpl : (backTo pos (starEach es X.env)).any (·.1) = false := by rfl) :
    PE X (.Call (.Name x p) (e :: es) [] pos) (tMake C sp [] E0 t) := by
  obtain ⟨kp, fd, F, b⟩ := O
  exact pe_make M F hr hg hm b .nil pass0 ha hdb he hpl
theorem pe_mt {X : Cx} {k : Nat} {C f : Addr} {ps : List Str} {sp : Sp} {m : Str} {pos apos : Pos} {o e : Expr} {es : List Expr} {ta : TE} {t : TA} {pl : Sem Bool} (O : Ok X.prog X.w X.K X.mg X.base k f ps sp) (c : Cls X.K C) (hm : Meth X.K C m f) (hr : Room k X.A) (he : PE X o ta) (ha : PA X (e :: es) t)
    (hst : starEach (e :: es) X.env = (false, eval e X.env) :: starEach es X.env := by rfl) (hpl : (backTo pos (starEach es X.env)).any (·.1) = false := by rfl)
    (ht : eval (.Call (.Attribute o m apos) (e :: es) [] pos) X.env = (do
      let ov ← eval o X.env
      standAt apos.atName
      let (f, first) ← holding [ov] (getMethod ov m pl)
      callWith pos f first (backTo pos (starEach (e :: es) X.env)) (backToKw pos (keywordEach [] X.env))) := by rfl) :
    PE X (.Call (.Attribute o m apos) (e :: es) [] pos) (tMeth C m sp [] E0 ta t) := by
  obtain ⟨kp, fd, F, b⟩ := O
  exact pe_meth he c hm F hr b .nil pass0 ha hst hpl ht
theorem pe_mt0 {X : Cx} {k : Nat} {C f : Addr} {ps : List Str} {sp : Sp} {m : Str} {pos apos : Pos} {o : Expr} {ta : TE} {pl : Sem Bool} (O : Ok X.prog X.w X.K X.mg X.base k f ps sp) (c : Cls X.K C) (hm : Meth X.K C m f) (hr : Room k X.A) (he : PE X o ta)
    (ht : eval (.Call (.Attribute o m apos) [] [] pos) X.env = (do
      let ov ← eval o X.env
      standAt apos.atName
      let (f, first) ← holding [ov] (getMethod ov m pl)
      callWith pos f first (backTo pos (starEach [] X.env)) (backToKw pos (keywordEach [] X.env))) := by rfl) :
    PE X (.Call (.Attribute o m apos) [] [] pos) (tMeth C m sp [] E0 ta tNil) := by
  obtain ⟨kp, fd, F, b⟩ := O
  exact pe_meth0 he c hm F hr b .nil pass0 ht
/-- all but the thing at a stay -/
def SameX (a : Addr) (H H' : Hp) : Prop := ∀ b o, b ≠ a → H b = some o → H' b = some o
theorem SameX.refl {a : Addr} {H : Hp} : SameX a H H := fun _ _ _ h => h
theorem SameX.of {a : Addr} {H H' : Hp} (s : Same H H') : SameX a H H' := fun b o _ h => s b o h
theorem SameX.trans {a : Addr} {H H1 H2 : Hp} (s : SameX a H H1) (t : SameX a H1 H2) : SameX a H H2 := fun b o n h => t b o n (s b o n h)
theorem SameX.upd {a : Addr} {o : HO} {H : Hp} : SameX a H (upd H a o) := fun b u n h => by rw [upd_ne n]; exact h
theorem SameX.none {a : Addr} {H H' : Hp} (s : SameX a H H') (h : H a = none) : Same H H' := fun b o e => s b o (ne_of_none e h) e
theorem SameX.stay {K : PySem.W.Frag} {a : Addr} {H H' : Hp} {C dx : Addr} {fs : List (Str × V)} (s : SameX a H H') (h : H a = some (.ins C dx fs)) : Stay K H H' := by
  refine ⟨fun b xs q => ?_, fun b xs q => s b _ (fun e => by rw [e, h] at q; cases q) q⟩
  rcases q with (q | ⟨ob, q⟩) | q
  · exact .inl (.inl (s b _ (fun e => by rw [e, h] at q; cases q) q))
  · exact .inl (.inr ⟨ob, s b _ (fun e => by rw [e, h] at q; cases q) q⟩)
  · exact .inr q
theorem SameX.hz {K : PySem.W.Frag} {a : Addr} {H H' : Hp} {C dx : Addr} {fs : List (Str × V)} {v : V} {hs : Heaps} (s : SameX a H H') (h : H a = some (.ins C dx fs)) (f : Hz K H v hs) : Hz K H' v hs := by
  obtain ⟨b, o, ps, e, d, q, p⟩ := f
  exact ⟨b, o, ps, e, d, s b _ (fun e => by rw [e, h] at q; cases q) q, L2.Paired.mapP p fun _ _ z => (s.stay h).1 _ _ z⟩
abbrev lineF (t : Int) (u v : V) : List (Str × V) := [("tick", .int t), ("heaps", u), ("lefts", v)]
/-- a line: its tick, its heaps, its lefts -/
def LineAt (K : PySem.W.Frag) (H : Hp) (a : Addr) (t : Int) (hs : Heaps) (ls : List Int) : Prop := ∃ dx u v, H a = some (.ins (He.ga K "Line") dx (lineF t u v)) ∧ Hz K H u hs ∧ Tp K H v (dI ls)
theorem LineAt.same {K : PySem.W.Frag} {H H' : Hp} {a : Addr} {t : Int} {hs : Heaps} {ls : List Int} (h : LineAt K H a t hs ls) (s : Same H H') : LineAt K H' a t hs ls := by
  obtain ⟨dx, u, v, h1, h2, h3⟩ := h
  exact ⟨dx, u, v, s _ _ h1, h2.same s, h3.same s⟩
section
variable {P : Program} {w : World} {K : PySem.W.Frag} {mg : Str → Option Value} {base : Heap}
abbrev N_Line_init : List Str := ["self", "heaps", "lefts", "found", "hands"]
theorem sc_Line_init : FnScope N_Line_init ["self", "heaps", "lefts"] (defScope s_Line_init) := ⟨rfl, rfl, rfl, by decide +kernel, rfl, by decide +kernel, by decide +kernel⟩
def sp_LineInit (K : PySem.W.Frag) : Sp := fun vs H Q _ => ∃ (x dx : Addr) (v u : V) (hs : Heaps) (ls : List Int) (c : Int), vs = [.ref x, v, u] ∧ H x = some (.ins (He.ga K "Line") dx []) ∧ Tp K H v (dH hs) ∧ Tp K H u (dI ls) ∧ HOk hs ∧ LOk ls ∧ (∀ p ∈ hs, p.1 % 2 = c) ∧
  ∀ H' hs' ls', SameX x H H' → hs'.Perm hs → ls'.Perm ls → LineAt K H' x 0 hs' ls' → Q .non H'
theorem O_Line_init (T : Tx K mg) : Ok P w K mg base 7 (He.ma K (He.ga K "Line") "__init__") ["self", "heaps", "lefts"] (sp_LineInit K) := by
  have O_need_start := O_need_start (P := P) (w := w) (base := base) T
  refine Ok.mk T.f_Line_init sc_Line_init (fun vs H Q E h => ?_) (fun _ _ _ _ _ _ us hl => match us, hl with | [_, _, _], _ => rfl) (fun cdv A outer s H vs Q E hr h => ?_)
  · obtain ⟨x, dx, v, u, hs, ls, c, rfl, _⟩ := h; rfl
  · obtain ⟨x, dx, v, u, hs, ls, c, rfl, hx, hv, hu, hok, lok, hc, k⟩ := h
    refine ⟨_, (pss_cons (ps_asg (pe_fn O_need_start (hr.mono (by decide)) T.g_need_start (pa_cons (pv 1) (pa_cons (pv 2) pa_nil))) (pg_tup rfl (pgs_cons (pg_name (i := 3) sc_Line_init.nd rfl (.inl rfl) (by first | exact .inl rfl | exact .inr rfl)) (pgs_cons (pg_name (i := 4) sc_Line_init.nd rfl (.inl rfl) (by first | exact .inl rfl | exact .inr rfl)) pgs_nil))))
      (pss_cons (ps_fld (pv 0) pe_int rfl)
      (pss_cons (ps_fld (pv 0) (pv 3) rfl)
      (pss_one (ps_fld (pv 0) (pv 4) rfl))))), ?_⟩
    refine ⟨_, rfl, _, rfl, v, u, hs, ls, c, rfl, hv, hu, hok, lok, hc, fun a H1 y z hs' ls' s1 ha pm1 pm2 ty tz => ?_⟩
    refine ⟨a, _, rfl, ha, rfl, _, _, rfl, _, _, rfl, rfl, ?_⟩
    have h1 := s1 _ _ hx
    refine ⟨_, rfl, x, _, dx, _, rfl, h1, T.c_Line, T.a_Line_tick, (by show 0 < 1000; decide), ?_⟩
    refine ⟨_, rfl, _, rfl, x, _, dx, _, rfl, upd_same, T.c_Line, T.a_Line_heaps, (by show 1 < 1000; decide), ?_⟩
    refine ⟨_, rfl, _, rfl, x, _, dx, _, rfl, upd_same, T.c_Line, T.a_Line_lefts, (by show 2 < 1000; decide), ?_⟩
    rw [upd_upd, upd_upd]
    have sx : SameX x H1 (upd H1 x (.ins (He.ga K "Line") dx (lineF 0 y z))) := SameX.upd
    refine k _ hs' ls' ((SameX.of s1).trans sx) pm1 pm2 ⟨dx, y, z, upd_same, sx.hz h1 ty, Tp.stay (sx.stay h1) tz⟩
theorem hz_dict {H : Hp} {v : V} {hs : Heaps} (h : Hz K H v hs) (hn : (hs.map (·.1)).Nodup) : ∃ a o ps, v = .ref a ∧ o.dict = none ∧ H a = some (.frz o (.tup (ps.map V.ref))) ∧ Paired (fun p (kv : Key × V) => SqT K H p [kV kv.1, kv.2]) ps (tabV V.int hs) ∧ mergeK [] (tabV V.int hs) = tabV V.int hs := by
  obtain ⟨a, o, ps, rfl, d, h, p⟩ := h
  refine ⟨a, o, ps, rfl, d, h, ?_, mergeK_tab hn⟩
  clear hn h
  induction p with
  | nil => exact .nil
  | cons h t ih => exact .cons h ih
abbrev N_Line_heap_at : List Str := ["self", "spot"]
theorem sc_Line_heap_at : FnScope N_Line_heap_at ["self", "spot"] (defScope s_Line_heap_at) := ⟨rfl, rfl, rfl, by decide +kernel, rfl, by decide +kernel, by decide +kernel⟩
def sp_heapAt (K : PySem.W.Frag) : Sp := fun vs H Q _ => ∃ (a : Addr) (x t : Int) (hs : Heaps) (ls : List Int), vs = [.ref a, .int x] ∧ LineAt K H a t hs ls ∧ (hs.map (·.1)).Nodup ∧ ∀ H', Same H H' → Q (.int (gets hs x)) H'
theorem O_heap_at (T : Tx K mg) : Ok P w K mg base 4 (He.ma K (He.ga K "Line") "heap_at") ["self", "spot"] (sp_heapAt K) := by
  have O_need_number := O_need_number (P := P) (w := w) (base := base) T
  refine Ok.mk T.f_Line_heap_at sc_Line_heap_at (fun vs H Q E h => ?_) (fun _ _ _ _ _ _ us hl => match us, hl with | [_, _], _ => rfl) (fun cdv A outer s H vs Q E hr h => ?_)
  · obtain ⟨a, x, t, hs, ls, rfl, _⟩ := h; rfl
  · obtain ⟨a, x, t, hs, ls, rfl, ⟨dx, u, v, h1, h2, h3⟩, hn, k⟩ := h
    have hu := Nat.lt_of_le_of_lt (Nat.add_le_add_left (by decide : 1 ≤ 64) _) hr.units
    refine ⟨_, (pss_cons (ps_expr (pe_fn O_need_number (hr.mono (by decide)) T.g_need_number (pa_cons (pv 1) (pa_cons pe_str (pa_cons pe_non (pa_cons pe_non pa_nil))))))
      (pss_one (ps_ret (pe_dget2 hu (pe_callTy (call_dictZ rfl) (by rfl) T.z_dict (by decide +kernel) (pa_cons (pe_fld (pv 0) rfl) pa_nil)) (pv 1) pe_int ⟨rfl, rfl, rfl, rfl⟩)))), ?_⟩
    refine ⟨_, rfl, x, _, none, none, rfl, (fun _ e => by cases e), (fun _ e => by cases e), ?_⟩
    obtain ⟨a1, o1, ps1, rfl, d1, q1, pp1, em⟩ := hz_dict h2 hn
    refine ⟨_, rfl, a, _, dx, _, _, rfl, h1, T.c_Line, T.a_Line_heaps, rfl, a1, o1, ps1, _, rfl, d1, q1, pp1, fun p hp => ?_⟩
    rw [em]
    refine ⟨p, rfl, isd_tab upd_same, _, rfl, _, dg_tab upd_same, ?_⟩
    rw [getD_tab]
    exact k _ (same_new hp)
abbrev N_line_at : List Str := ["tick", "heaps", "lefts", "found"]
theorem sc_line_at : FnScope N_line_at ["tick", "heaps", "lefts"] (defScope s_line_at) := ⟨rfl, rfl, rfl, by decide +kernel, rfl, by decide +kernel, by decide +kernel⟩
def sp_lineAt (K : PySem.W.Frag) : Sp := fun vs H Q _ => ∃ (u v : V) (t : Int) (hs : Heaps) (ls : List Int), vs = [.int t, u, v] ∧ Hz K H u hs ∧ Tp K H v (dI ls) ∧ ∀ a H', Same H H' → H a = none → LineAt K H' a t hs ls → Q (.ref a) H'
theorem O_line_at (T : Tx K mg) : Ok P w K mg base 9 (He.ga K "line_at") ["tick", "heaps", "lefts"] (sp_lineAt K) := by
  have O_Line_init := O_Line_init (P := P) (w := w) (base := base) T
  refine Ok.mk T.f_line_at sc_line_at (fun vs H Q E h => ?_) (fun _ _ _ _ _ _ us hl => match us, hl with | [_, _, _], _ => rfl) (fun cdv A outer s H vs Q E hr h => ?_)
  · obtain ⟨u, v, t, hs, ls, rfl, _⟩ := h; rfl
  · obtain ⟨u, v, t, hs, ls, rfl, hu, hv, k⟩ := h
    refine ⟨_, (pss_cons (ps_set (i := 3) sc_line_at.nd rfl (.inl rfl) (pe_mk O_Line_init T.k_Line (hr.mono (by decide)) T.g_Line (pa_cons (pe_tup pa_nil) (pa_cons (pe_tup pa_nil) pa_nil))))
      (pss_cons (ps_fld (pv 3) (pv 0) rfl)
      (pss_cons (ps_fld (pv 3) (pe_callTy call_tupS (by rfl) T.z_tuple (by decide +kernel) (pa_cons (pv 1) pa_nil)) rfl)
      (pss_cons (ps_fld (pv 3) (pe_callTy call_tupS (by rfl) T.z_tuple (by decide +kernel) (pa_cons (pv 2) pa_nil)) rfl)
      (pss_one (ps_ret (pv 3))))))), ?_⟩
    refine ⟨Nat.zero_le _, fun p1 hp1 => ⟨Nat.zero_le _, fun p2 hp2 x dx hx hdx hne => ?_⟩⟩
    have s1 := (same_new (o := .tup []) hp1).trans (same_new (o := .tup []) hp2)
    have s2 : Same _ (upd (upd (upd (upd H p1 (.tup [])) p2 (.tup [])) dx (.own x)) x (.ins (He.ga K "Line") dx [])) := (same_new (o := .own x) hdx).trans (same_new (o := .ins (He.ga K "Line") dx []) (by rw [upd_ne (Ne.symm hne)]; exact hx))
    have hp1' : (upd (upd H p1 (.tup [])) p2 (.tup [])) p1 = some (.tup []) := (same_new (o := .tup []) hp2) _ _ upd_same
    refine ⟨x, dx, _, _, [], [], 0, rfl, upd_same, .tup (SqT.of (s2 _ _ hp1')) .nil, .tup (SqT.of (s2 _ _ upd_same)) .nil, ⟨by simp, by simp, by simp⟩, ⟨by simp, by simp, by simp⟩, by simp, fun H1 hs' ls' sx _ _ la => ⟨rfl, ?_⟩⟩
    obtain ⟨dx1, u1, v1, g1, _, _⟩ := la
    have hx0 : H x = none := none_back s1 hx
    have sA : Same H H1 := (fun b o e => sx b o (ne_of_none e hx0) ((s1.trans s2) _ _ e))
    refine ⟨_, rfl, _, rfl, x, _, dx1, _, rfl, g1, T.c_Line, T.a_Line_tick, (by show 3 < 1000; decide), ?_⟩
    obtain ⟨a1, o1, ps1, eu, d1, q1, pp1⟩ := hu
    subst eu
    obtain ⟨a2, xs2, rfl, q2, t2⟩ := hv.tup_inv
    have sB : Same H (upd H1 x (.ins (He.ga K "Line") dx1 (lineF t u1 v1))) := same_put sA hx0
    refine ⟨_, rfl, a1, _, rfl, .inl (.inr ⟨o1, sB _ _ q1⟩), _, rfl, x, _, dx1, _, rfl, upd_same, T.c_Line, T.a_Line_heaps, (by show 3 < 1000; decide), ?_⟩
    have sC : Same H (upd (upd H1 x (.ins (He.ga K "Line") dx1 (lineF t u1 v1))) x (.ins (He.ga K "Line") dx1 (lineF t (.ref a1) v1))) := same_put sB hx0
    refine ⟨_, rfl, a2, xs2, rfl, same_t sC q2, _, rfl, x, _, dx1, _, rfl, upd_same, T.c_Line, T.a_Line_lefts, (by show 3 < 1000; decide), ?_⟩
    have sD : Same H (upd (upd (upd H1 x (.ins (He.ga K "Line") dx1 (lineF t u1 v1))) x (.ins (He.ga K "Line") dx1 (lineF t (.ref a1) v1))) x (.ins (He.ga K "Line") dx1 (lineF t (.ref a1) (.ref a2)))) := same_put sC hx0
    exact ⟨_, rfl, k _ _ sD hx0 ⟨dx1, _, _, upd_same, ⟨a1, o1, ps1, rfl, d1, sD _ _ q1, L2.Paired.mapP pp1 fun _ _ z => same_t sD z⟩, hv.same sD⟩⟩
end
end Nw
namespace Nw
open PySem PySem.Spec PyProof.Rows L2 Nd
abbrev N_place_of : List Str := ["row"]
theorem sc_place_of : FnScope N_place_of ["row"] (defScope s_place_of) := ⟨rfl, rfl, rfl, by decide +kernel, rfl, by decide +kernel, by decide +kernel⟩
section
open PySem.W
theorem vals_cons {x : V} {xs : List V} {us : List Value} (h : Vals (x :: xs) us) : ∃ u us', us = u :: us' ∧ RelV x u ∧ Vals xs us' := by
  cases h with
  | cons r t => exact ⟨_, _, rfl, r, t⟩
/-- place_of keeps all that was there -/
theorem place_pure {X : Cx} (T : Tx X.K X.mg) {pins : List (Addr × Obj)} {σ : L2.St} {H : Hp} {s : Shared} (I : Inv X pins σ H s) (hr : Room 3 X.A) {t : Addr} {a b c : Int} (ht : H t = some (.tup [.int a, .int b, .int c])) :
    wpAny (model X.prog X.w) X.A.in1.in1 (call (.ref (He.ga X.K "place_of")) [.ref t]) (KeyPure (.tuple [.int b, .int a]) s) (fun _ _ => False) s := by
  obtain ⟨fd, F⟩ := T.f_place_of
  have hb : Binds X.K fd ["row"] [] := F.bindsN (fun _ _ _ _ _ _ us hl => match us, hl with | [_], _ => rfl)
  obtain ⟨oc, od, dV, kV, doc, pm, an, cdv, ct, osl, rfl, lk, hcd, _, _⟩ := F.ex
  have S := sc_place_of
  have e0 := I.env0
  have KX : X.K.In s.heap := e0.mod.kin.keeps fun b o e => (e0.bs b o e).1
  have lim : s.heap.NoLimit := e0.mod.nolimit.keeps fun b o e => (e0.bs b o e).1
  have hkind : ∀ y ∈ (["row"] : List Str).zip [Value.ref t], (defScope s_place_of).names.lookup y.1 = some .local ∨ ((defScope s_place_of).names.lookup y.1 = some .cell ∧ ((cellsFrom (s.heap.objs.size + 1) (defScope s_place_of).names []).lookup y.1).isSome = true) := fun ⟨n, v⟩ hy => by
    rcases S.par n (List.of_mem_zip hy).1 with q | q
    · exact .inl q
    · exact .inr ⟨q, PySem.W.cellsFrom_some _ _ _ (.inl q)⟩
  refine wpAny_call (codeAny_call_function (hr.in1.in1).depth (KX _ _ lk) rfl S.co S.gen rfl (PySem.W.codeRec_of KX hcd) (hb s [.ref t] KX rfl _ _ _ _ ?_))
  refine wpAny_newFunctionEnv_cells S.kind hkind fun env he s1 x => ?_
  subst he
  refine ⟨lim.keeps x.toInCall.keep, codeAny_func ?_⟩
  have hn := x.toInCall.ns
  obtain ⟨h1, tk1, rfl, hk⟩ := x.done
  obtain ⟨_, its, rv, o, ho, hcls, n, hd⟩ := I.hok t _ ht
  obtain ⟨u0, its1, rfl, r0, rv⟩ := vals_cons rv
  obtain ⟨u1, its2, rfl, r1, rv⟩ := vals_cons rv
  obtain ⟨u2, its3, rfl, r2, rv⟩ := vals_cons rv
  cases rv
  obtain ⟨t0, rfl⟩ := r0
  obtain ⟨t1, rfl⟩ := r1
  obtain ⟨t2, rfl⟩ := r2
  have it1 : IsTup h1 t #[.int a t0, .int b t1, .int c t2] := ⟨o, hk _ _ ho, hcls, n, hd⟩
  have item : ∀ (k : Int) (j : Nat) (z : Value) (E' : Value → Shared → Prop) (Q' : Value → Shared → Prop) (tk : Nat) (p1 p2 p3 : Pos) (kk : Nat), -(2 ^ 63) ≤ k → k < 2 ^ 63 → seqIndex? k 3 = some j → (#[Value.int a t0, .int b t1, .int c t2])[j]? = some z → (∀ tk', Q' z { s with heap := h1, toks := tk' }) →
      wpAny (model X.prog X.w) (X.A.in1.in1.deeper (envOfC "place_of" (defScope s_place_of) s.heap.objs.size (He.ga X.K "place_of") cdv)) (eval (.Subscript (.Name "row" p1) (.Constant (.int k) kk p2) p3) (envOfC "place_of" (defScope s_place_of) s.heap.objs.size (He.ga X.K "place_of") cdv)) Q' E' { s with heap := h1, toks := tk } := by
    intro k j z E' Q' tk p1 p2 p3 kk hk1 hk2 hj hz hQ
    refine Subscript_ (wpAny_Name (wpAny_loadName_local (m := _) (v := Value.ref t) S.kind rfl hn ?_ (wpAny_Constant_int ?_)))
    · exact bindL_get (P := ["row"]) (vs := [Value.ref t]) (i := 0) (by decide) rfl rfl rfl
    · exact subscriptTail_builtinR (x := z) (T := "tuple") it1.typeIs slot_tuple_getitem.lookup (getItem_tuple (j := j) it1 hk1 hk2 hj hz ⟨rfl, hQ _⟩)
  refine wpAny_execs_cons (wpAny_Return_some (wpAny_Tuple_spliced (Calls.spliced_cons (item 1 1 _ _ _ _ _ _ _ _ (by decide) (by decide) rfl rfl fun tk2 => ?_))))
  refine Calls.spliced_cons (item 0 0 _ _ _ _ _ _ _ _ (by decide) (by decide) rfl rfl fun tk3 => Calls.spliced_nil ⟨(by rw [sizeLine_eq]; show 2 ≤ 16777216; omega), ?_⟩)
  exact ⟨_, _, rfl, fun b o e => Heap.get?_push_of_some _ (hk _ _ e), .tuple (as := [] ++ ([] ++ [])) (Heap.get?_push_size _ rfl) rfl rfl (.cons (.int _ _) (.cons (.int _ _) .nil))⟩
end
abbrev PRow := Int × Nat × Int
def dR (r : PRow) : PyData := dI [r.1, (r.2.1 : Nat), r.2.2]
abbrev isR (K : PySem.W.Frag) : PRow → V → Hp → Prop := fun r y H => ∃ t, y = .ref t ∧ H t = some (.tup [.int r.1, .int (r.2.1 : Nat), .int r.2.2])
theorem isR_stay {K : PySem.W.Frag} (d : PRow) (y : V) (H1 H2 : Hp) (s : Stay K H1 H2) (h : isR K d y H1) : isR K d y H2 := by
  obtain ⟨t, e, h⟩ := h
  exact ⟨t, e, s.2 _ _ h⟩
theorem tp_R {K : PySem.W.Frag} {H : Hp} {d : PRow} {y : V} (h : isR K d y H) : Tp K H y (dR d) := by
  obtain ⟨t, rfl, h⟩ := h
  exact tpI (ns := [d.1, (d.2.1 : Nat), d.2.2]) (SqT.of h)
theorem tpAll_R {K : PySem.W.Frag} {H : Hp} : ∀ {ds : List PRow} {ys : List V}, Paired (fun d y => isR K d y H) ds ys → TpAll K H ys (ds.map dR)
  | _, _, .nil => .nil
  | _, _, .cons h t => .cons (tp_R h) (tpAll_R t)
/-- the order of rows: by tick, then by spot -/
def placeLe (p q : PRow) : Bool := decide (((p.2.1 : Nat) : Int) < (q.2.1 : Nat) ∨ (((p.2.1 : Nat) : Int) = (q.2.1 : Nat) ∧ p.1 ≤ q.1))
theorem place_sorted (l : List PRow) : (l.mergeSort placeLe).Pairwise (fun p q => p.2.1 ≤ q.2.1) := by
  refine List.Pairwise.imp (fun {p q} h => ?_) (List.pairwise_mergeSort (le := placeLe) (fun a b c h1 h2 => ?_) (fun a b => ?_) l)
  · have := of_decide_eq_true h
    omega
  · have a1 := of_decide_eq_true h1
    have a2 := of_decide_eq_true h2
    exact decide_eq_true (by omega)
  · unfold placeLe
    rw [Bool.or_eq_true, decide_eq_true_iff, decide_eq_true_iff]
    omega
def rSortPl (K : PySem.W.Frag) : List V → List V → Hp → VK → Prop := fun vs zs H Q => ∃ (a : Addr) (ys : List V) (rows : List PRow), vs = [.ref a] ∧ zs = [.ref (He.ga K "place_of")] ∧ SqL K H a ys ∧ Paired (fun d y => isR K d y H) rows ys ∧ rows.length ≤ 1000 ∧
  ∀ l zs', H l = none → Paired (fun d y => isR K d y H) (rows.mergeSort placeLe) zs' → Q (.ref l) (upd H l (.lst zs'))
theorem each_R {K : PySem.W.Frag} {H : Hp} : ∀ {rows : List PRow} {ys : List V} {its : List Value}, Paired (fun d y => isR K d y H) rows ys → Vals ys its → PySem.W.EachIs (fun (v : Value) (r : PRow) => ∃ t, v = .ref t ∧ H t = some (.tup [.int r.1, .int (r.2.1 : Nat), .int r.2.2])) its rows
  | _, _, _, .nil, .nil => .nil
  | _, _, _, .cons h t, .cons r rs => by
    obtain ⟨a, rfl, h⟩ := h
    have e : _ = Value.ref a := r
    exact .cons ⟨a, e, h⟩ (each_R t rs)
theorem each_R_back {K : PySem.W.Frag} {H : Hp} : ∀ {rows : List PRow} {out : List Value}, PySem.W.EachIs (fun (v : Value) (r : PRow) => ∃ t, v = .ref t ∧ H t = some (.tup [.int r.1, .int (r.2.1 : Nat), .int r.2.2])) out rows → ∃ zs, Vals zs out ∧ Paired (fun d y => isR K d y H) rows zs
  | _, _, .nil => ⟨[], .nil, .nil⟩
  | _, _, .cons h t => by
    obtain ⟨zs, r, p⟩ := each_R_back (K := K) t
    obtain ⟨a, rfl, h⟩ := h
    exact ⟨.ref a :: zs, .cons rfl r, .cons ⟨a, rfl, h⟩ p⟩
theorem cr_sortedPl {X : Cx} (T : Tx X.K X.mg) (hr : Room 3 X.A) : CallRK X (.builtin "sorted") [Str.ofString "key"] (rSortPl X.K) := by
  intro pins s σ H vs zs us ws Q I r rz h
  obtain ⟨a, ys, rows, rfl, rfl, hs, hp, hl, q⟩ := h
  obtain rfl := Vals.ref1 r
  obtain rfl := Vals.ref1 rz
  obtain ⟨its, rv, pl, hz⟩ := I.list hs
  have hk : (PySem.W.dataLe false fun (r : PRow) => PyData.tuple [.int (r.2.1 : Nat), .int r.1]) = placeLe := by
    rw [PySem.W.dataLe_ii]
    rfl
  have lz : rows.length ≤ sizeLine := Nat.le_trans hl (by decide)
  refine PySem.W.sorted_key_data (k := fun (r : PRow) => PyData.tuple [.int (r.2.1 : Nat), .int r.1]) (bs := rows) (b := false) pl.isList (each_R hp rv) (fun d hd d' hd' => ?_) (.inl fun d hd => ?_) lz (fun x _ => ?_) (PyProof.Rows.ksk_s1 _ _) (fun _ => PyProof.Rows.ksk_l1 _ _) (fun _ => ksk_t1 _ _) (fun v x hR hx h1 tk hk1 => ?_) (fun out c h' tk hk1 _ hn hlen he => ?_)
  · obtain ⟨x, _, rfl⟩ := List.mem_map.mp hd
    obtain ⟨y, _, rfl⟩ := List.mem_map.mp hd'
    rfl
  · obtain ⟨x, _, rfl⟩ := List.mem_map.mp hd
    exact ⟨_, _, rfl⟩
  · show X.A.units + 2 + 1 < cLine
    have := hr.units
    omega
  · obtain ⟨t, rfl, ht⟩ := hR
    exact place_pure T (I.kept (t' := tk) hk1) hr ht
  · rw [hk] at he
    obtain ⟨zs, r2, p2⟩ := each_R_back (K := X.K) he
    have hle : s.heap.objs.size ≤ s.heap.objs.size + 1 := Nat.le_succ _
    have hn0 : H (s.heap.objs.size + 1) = none := I.hok.fresh hle
    have hz2 : zs.length ≤ sizeLine := by
      rw [r2.length, hlen]
      exact lz
    exact ⟨.ref (s.heap.objs.size + 1), upd H (s.heap.objs.size + 1) (.lst zs), I.laid (t' := tk) hk1 hle ⟨hz2, out, c, r2, hn⟩, rfl, q _ _ hn0 p2⟩
end Nw
namespace Nw
open PySem PySem.Spec PyProof.Rows L2 Nd
theorem lock_same {H H' : Hp} {d : Addr} {od : Obj} {u : HO} (h : H d = some u) (s : Same (upd H d (.frz od u)) H') : Same H (upd H' d u) := fun b o e => by
  by_cases eb : b = d
  · subst eb
    rw [h] at e
    cases e
    exact upd_same
  · rw [upd_ne eb]
    exact s _ _ (by rw [upd_ne eb]; exact e)
theorem Stay.unlock {K : PySem.W.Frag} {H : Hp} {d : Addr} {od : Obj} {kvs : List (Key × V)} {o : HO} (h : H d = some (.frz od (.dK kvs))) : Stay K H (upd H d o) := by
  refine ⟨fun a xs q => ?_, fun a xs q => by rw [upd_ne (fun e => by rw [e, h] at q; cases q)]; exact q⟩
  rcases q with (q | ⟨ob, q⟩) | q
  · exact .inl (.inl (by rw [upd_ne (fun e => by rw [e, h] at q; cases q)]; exact q))
  · exact .inl (.inr ⟨ob, by rw [upd_ne (fun e => by rw [e, h] at q; cases q)]; exact q⟩)
  · exact .inr q
theorem Src.itab {d : Addr} {o : Obj} {f : Int → V} {L : Tab} : Src (Iti d o (tabV f L)) (fun H => H d = some (.frz o (.dK (tabV f L)))) L (fun p x H => ∃ T, x = .ref T ∧ H T = some (.tup [.int p.1, f p.2])) where
  go := fun i H h hi => ⟨h, by rw [List.length_map]; exact hi⟩
  stop := fun H h => ⟨h, by rw [List.length_map]; exact Nat.le_refl _⟩
  yld := fun i q x H H' h e y => by
    obtain ⟨T, k, v, h1, h2, h3, rfl⟩ := y
    rw [List.getElem?_map, e] at h1
    cases h1
    exact ⟨same_new h3, T, h2, upd_same⟩
theorem Src.ktab {d : Addr} {o : Obj} {f : Int → V} {L : Tab} : Src (Itk d o (tabV f L)) (fun H => H d = some (.frz o (.dK (tabV f L)))) L (fun p x _ => x = .int p.1) where
  go := fun i H h hi => ⟨h, by rw [List.length_map]; exact hi⟩
  stop := fun H h => ⟨h, by rw [List.length_map]; exact Nat.le_refl _⟩
  yld := fun i q x H H' h e y => by
    obtain ⟨h1, k, v, h2, h3⟩ := y
    rw [List.getElem?_map, e] at h2
    cases h2
    exact ⟨same_eq h1, h3⟩
theorem seq_put {K : PySem.W.Frag} {H : Hp} {F D : Addr} {ys : List V} {kvs : List (Key × V)} {o : HO} (h : SqL K H F ys) (hD : H D = some (.dK kvs)) : SqL K (upd H D o) F ys := by
  rcases h with (h | ⟨ob, h⟩) | h
  · exact .inl (.inl (by rw [upd_ne (fun e => by rw [e, hD] at h; cases h)]; exact h))
  · exact .inl (.inr ⟨ob, by rw [upd_ne (fun e => by rw [e, hD] at h; cases h)]; exact h⟩)
  · exact .inr h
theorem getB_tab {L : Tab} {k : Int} : ((lookI L k).map vB).getD (.bl false) = .bl (decide (gets L k ≠ 0)) := by
  unfold gets
  cases lookI L k <;> rfl
section
variable {P : Program} {w : World} {K : PySem.W.Frag} {mg : Str → Option Value} {base : Heap}
abbrev N_Line_advance : List Str := ["self", "later", "lefts", "spot", "left", "right", "beside", "many", "is_left"]
theorem sc_Line_advance : FnScope N_Line_advance ["self"] (defScope s_Line_advance) := ⟨rfl, rfl, rfl, by decide +kernel, rfl, by decide +kernel, by decide +kernel⟩
def sp_adv (K : PySem.W.Frag) : Sp := fun vs H Q _ => ∃ (a : Addr) (t : Int) (hs : Heaps) (ls : List Int), vs = [.ref a] ∧ LineAt K H a t hs ls ∧ (hs.map (·.1)).Nodup ∧ (∀ p ∈ hs, 0 ≤ p.2) ∧ ls.Nodup ∧ hs.length ≤ 400000 ∧ ls.length ≤ 400000 ∧
  ∀ H' hs' ls', SameX a H H' → hs'.Perm ((tickT ls hs).1.filter fun p => decide (0 < p.2)) → ls'.Perm (((tickT ls hs).2.filter fun p => decide (p.2 ≠ 0)).map (·.1)) → LineAt K H' a (t + 1) hs' ls' → Q (.int (t + 1)) H'
theorem O_advance (T : Tx K mg) : Ok P w K mg base 2 (He.ma K (He.ga K "Line") "advance") ["self"] (sp_adv K) := by
  have O_sent_on := O_sent_on (P := P) (w := w) (base := base) T
  refine Ok.mk T.f_Line_advance sc_Line_advance (fun vs H Q E h => ?_) (fun _ _ _ _ _ _ us hl => match us, hl with | [_], _ => rfl) (fun cdv A outer s H vs Q E hr h => ?_)
  · obtain ⟨a, t, hs, ls, rfl, _⟩ := h; rfl
  · obtain ⟨a, t, hs, ls, rfl, ⟨dx, u, v, h1, hz, hv⟩, hn, hp, hln, hl1, hl2, k⟩ := h
    have hu := Nat.lt_of_le_of_lt (Nat.add_le_add_left (by decide : 1 ≤ 64) _) hr.units
    obtain ⟨b, rfl, hb⟩ := tpI_inv hv
    refine ⟨_, (pss_cons (ps_par (i := 1) (j := 2) rfl sc_Line_advance.nd rfl rfl (by decide) rfl rfl (pa_cons pe_dnewK (pa_cons (pe_dc (own := [("spot", 3)]) rfl sc_Line_advance.nd (pi_tup (pe_fld (pv 0) rfl)) (blkOk_by (N := N_Line_advance) (sc := defScope s_Line_advance) (by decide +kernel)) (fun _ _ _ _ _ => (pg_name (i := 3) sc_Line_advance.nd rfl (.inl rfl) (by first | exact .inl rfl | exact .inr rfl))) (fun _ _ _ _ _ => pts_nil) (fun _ _ _ _ _ => (pv 3)) (fun _ _ _ _ _ => pe_bl)) pa_nil)) (by rfl))
      (pss_cons (ps_for PassesOwn.never rfl (pi_list (pe_fn O_sent_on (hr.mono (by decide)) T.g_sent_on (pa_cons (pe_fld (pv 0) rfl) (pa_cons (pe_fld (pv 0) rfl) pa_nil)))) (pg_tup rfl (pgs_cons (pg_name (i := 3) sc_Line_advance.nd rfl (.inl rfl) (by first | exact .inl rfl | exact .inr rfl)) (pgs_cons (pg_name (i := 4) sc_Line_advance.nd rfl (.inl rfl) (by first | exact .inl rfl | exact .inr rfl)) (pgs_cons (pg_name (i := 5) sc_Line_advance.nd rfl (.inl rfl) (by first | exact .inl rfl | exact .inr rfl)) pgs_nil))))
      (pss_cons (ps_for PassesOwn.never rfl (pi_tup (pe_tup (pa_cons (pe_tup (pa_cons (pe_op op_sub (pv 3) pe_int) (pa_cons (pv 4) pa_nil))) (pa_cons (pe_tup (pa_cons (pe_op op_add (pv 3) pe_int) (pa_cons (pv 5) pa_nil))) pa_nil)))) (pg_tup rfl (pgs_cons (pg_name (i := 6) sc_Line_advance.nd rfl (.inl rfl) (by first | exact .inl rfl | exact .inr rfl)) (pgs_cons (pg_name (i := 7) sc_Line_advance.nd rfl (.inl rfl) (by first | exact .inl rfl | exact .inr rfl)) pgs_nil)))
      (pss_one (ps_dput hu (pv 1) (pv 6) (pe_op op_add (pe_dget2 hu (pv 1) (pv 6) pe_int ⟨rfl, rfl, rfl, rfl⟩) (pv 7)) rfl)))
      (pss_one (ps_if (pt_cmpR op_ne (pv 4) (pv 5) (nomark _))
      (pss_one (ps_dput hu (pv 2) (pv 3) (pe_not (pe_dget2 hu (pv 2) (pv 3) pe_bl ⟨rfl, rfl, rfl, rfl⟩)) rfl))
      pss_nil))))
      (pss_cons (ps_fld (pv 0) (pe_callTy call_tupZ (by rfl) T.z_tuple (by decide +kernel) (pa_cons (pe_callB cr_sortedPO (by rfl) T.z_sorted (by decide +kernel) (pa_cons (pe_lock (pe_lc (own := [("spot", 3), ("many", 7)]) rfl sc_Line_advance.nd (pi_items (pv 1)) (blkOk_by (N := N_Line_advance) (sc := defScope s_Line_advance) (by decide +kernel)) (fun _ _ _ _ _ => (pg_tupK (K := K) (n := 2) rfl rfl (pgs_cons (pg_name (i := 3) sc_Line_advance.nd rfl (.inl rfl) (by first | exact .inl rfl | exact .inr rfl)) (pgs_cons (pg_name (i := 7) sc_Line_advance.nd rfl (.inl rfl) (by first | exact .inl rfl | exact .inr rfl)) pgs_nil)))) (fun _ _ _ _ _ => (pts_one (pt_cmpR op_gt (pv 7) pe_int (nomark _)))) (fun _ _ _ _ _ => (pe_tup (pa_cons (pv 3) (pa_cons (pv 7) pa_nil)))))) pa_nil)) pa_nil)) rfl)
      (pss_cons (ps_fld (pv 0) (pe_callTy call_tuple_of (by rfl) T.z_tuple (by decide +kernel) (pa_cons (pe_callB cr_sortedI (by rfl) T.z_sorted (by decide +kernel) (pa_cons (pe_lock (pe_lc (own := [("spot", 3), ("is_left", 8)]) rfl sc_Line_advance.nd (pi_items (pv 2)) (blkOk_by (N := N_Line_advance) (sc := defScope s_Line_advance) (by decide +kernel)) (fun _ _ _ _ _ => (pg_tupK (K := K) (n := 2) rfl rfl (pgs_cons (pg_name (i := 3) sc_Line_advance.nd rfl (.inl rfl) (by first | exact .inl rfl | exact .inr rfl)) (pgs_cons (pg_name (i := 8) sc_Line_advance.nd rfl (.inl rfl) (by first | exact .inl rfl | exact .inr rfl)) pgs_nil)))) (fun _ _ _ _ _ => (pts_one (pt_val (pv 8)))) (fun _ _ _ _ _ => (pv 3)))) pa_nil)) pa_nil)) rfl)
      (pss_cons (ps_fld (pv 0) (pe_op op_add (pe_fld (pv 0) rfl) pe_int) rfl)
      (pss_one (ps_ret (pe_fld (pv 0) rfl)))))))), ?_⟩
    intro D1 hD1
    have s1 : Same H (upd H D1 (.dK [])) := same_new hD1
    refine ⟨_, rfl, a, _, dx, _, _, rfl, s1 _ _ h1, T.c_Line, T.a_Line_lefts, rfl, b, rfl, ⟨_, same_t s1 hb⟩, fun D hD => dc_src (Src.tup (K := K) (xs := ls.map V.int)) hD vB (fun i => onT (ls.take i)) rfl (fun H' s => same_t (s1.trans s) hb) (by rw [List.length_map]; omega) (fun i hi => by rw [List.length_map, List.length_take]; omega) (fun i d x H1 Q2 Q0 s1 hi hx k1 => ?_) (fun H1 s2 hD2 => ?_)⟩
    · subst hx
      rw [List.getElem?_map] at hi
      obtain ⟨l, hl, rfl⟩ := Option.map_eq_some_iff.mp hi
      refine ⟨rfl, yesD ⟨_, rfl, k1 l 1 H1 (Same.refl _) ?_⟩⟩
      have e : ls.take (i + 1) = ls.take i ++ [l] := by rw [List.take_succ, hl]; rfl
      rw [e]
      refine on_put ?_
      intro hm
      obtain ⟨j, hj, ej⟩ := List.mem_iff_getElem.mp hm
      rw [List.length_take] at hj
      rw [List.getElem_take] at ej
      obtain ⟨hi1, hi2⟩ := List.getElem?_eq_some_iff.mp hl
      have ne := List.pairwise_iff_getElem.mp (List.nodup_iff_pairwise_ne.mp hln) j i (by omega) hi1 (by omega)
      exact ne (ej.trans hi2.symm)
    · rw [List.length_map, List.take_length] at hD2
      have hD0 : H D = none := none_back s1 hD
      have hD1' := s2 _ _ (upd_same (H := H) (a := D1) (o := .dK []))
      have s3 := s1.trans s2
      have hDD : D ≠ D1 := fun e => by rw [e, upd_same] at hD; cases hD
      refine ⟨_, _, rfl, ?_⟩
      refine ⟨_, rfl, a, _, dx, _, _, rfl, s3 _ _ h1, T.c_Line, T.a_Line_heaps, rfl, _, rfl, a, _, dx, _, _, rfl, s3 _ _ h1, T.c_Line, T.a_Line_lefts, rfl, _, _, hs, ls, rfl, (hz.same s3).tp, hv.same s3, hln, by omega, by omega, fun z H2 s4 hz2 => ?_⟩
      obtain ⟨F, ys, rfl, hF, hys⟩ := hz2
      have s5 := s3.trans s4
      have hF2 : H D1 = none := hD1
      refine ⟨F, rfl, ⟨_, hF⟩, for_src (Src.lp (K := K) (f := dSent ls) (l := hs) (xs := ys)) (fun i σ H' => ∃ o3 o4 o5 o6 o7, σ = [some (.ref a), some (.ref D1), some (.ref D), o3, o4, o5, o6, o7, none] ∧ Same H H' ∧ Stay K H2 H' ∧ SqL K H' F ys ∧
        H' D1 = some (.dK (tabV V.int (tickT ls (hs.take i)).1)) ∧ H' D = some (.dK (tabV vB (tickT ls (hs.take i)).2))) ?_ ?_ ?_ ?_⟩
      · exact ⟨none, none, none, none, none, rfl, s5, Stay.refl _, hF, s4 _ _ hD1', s4 _ _ hD2⟩
      · rintro i σ H' _ ⟨_, _, _, _, _, _, _, st, hF', _⟩
        exact ⟨hF', hys.stay st⟩
      · rintro i d x σ H3 H4 hi ⟨o3, o4, o5, o6, o7, rfl, s6, st, hF3, g1, g2⟩ s7 hx
        obtain ⟨q, rfl, hq⟩ := tpI_inv hx
        have I := tick_all hln hn hp i (by have := (List.getElem?_eq_some_iff.mp hi).1; omega)
        have il1 := I.l1
        have il2 := I.l2
        have lt : (hs.take i).length ≤ hs.length := by rw [List.length_take]; omega
        generalize hZ : tickT ls (hs.take i) = Z at g1 g2 I il1 il2
        refine ⟨q, _, rfl, hq, rfl, _, _, rfl, _, _, rfl, _, _, rfl, rfl, ?_⟩
        refine ⟨_, rfl, _, _, rfl, rfl, _, rfl, (by show 2 ≤ sizeLine; decide), fun T1 hT1 => ?_⟩
        refine ⟨_, rfl, _, _, rfl, rfl, _, rfl, (by show 2 ≤ sizeLine; decide), fun T2 hT2 => ⟨(by show 2 ≤ sizeLine; decide), fun T3 hT3 => ?_⟩⟩
        have e1 : Same H4 (upd H4 T1 (.tup [.int (d.1 - 1), .int (sentL ls d)])) := same_new hT1
        have e2 : Same _ (upd (upd H4 T1 (.tup [.int (d.1 - 1), .int (sentL ls d)])) T2 (.tup [.int (d.1 + 1), .int (d.2 - sentL ls d)])) := same_new hT2
        have e3 : Same _ (upd (upd (upd H4 T1 (.tup [.int (d.1 - 1), .int (sentL ls d)])) T2 (.tup [.int (d.1 + 1), .int (d.2 - sentL ls d)])) T3 (.tup [.ref T1, .ref T2])) := same_new hT3
        have w1 := e3 _ _ (e2 _ _ (upd_same (H := H4) (a := T1) (o := .tup [.int (d.1 - 1), .int (sentL ls d)])))
        have w2 := e3 _ _ (upd_same (H := (upd H4 T1 (.tup [.int (d.1 - 1), .int (sentL ls d)]))) (a := T2) (o := .tup [.int (d.1 + 1), .int (d.2 - sentL ls d)]))
        have w3 : (upd (upd (upd H4 T1 (.tup [.int (d.1 - 1), .int (sentL ls d)])) T2 (.tup [.int (d.1 + 1), .int (d.2 - sentL ls d)])) T3 (.tup [.ref T1, .ref T2])) T3 = some (.tup [.ref T1, .ref T2]) := upd_same
        have s8 := (s7.trans e1).trans (e2.trans e3)
        generalize (upd (upd (upd H4 T1 (.tup [.int (d.1 - 1), .int (sentL ls d)])) T2 (.tup [.int (d.1 + 1), .int (d.2 - sentL ls d)])) T3 (.tup [.ref T1, .ref T2])) = H5 at e3 w1 w2 w3 s8 ⊢
        refine ⟨T3, rfl, ⟨_, SqT.of w3⟩, for_src (Src.tup (K := K) (xs := [.ref T1, .ref T2])) (fun j σ H' => ∃ o6 o7, σ = [some (.ref a), some (.ref D1), some (.ref D), some (.int d.1), some (.int (sentL ls d)), some (.int (d.2 - sentL ls d)), o6, o7, none] ∧ Same H H' ∧ Stay K H5 H' ∧ SqL K H' F ys ∧
          H' D1 = some (.dK (tabV V.int (if j = 0 then Z.1 else if j = 1 then addI Z.1 (d.1 - 1) (sentL ls d) else addI (addI Z.1 (d.1 - 1) (sentL ls d)) (d.1 + 1) (d.2 - sentL ls d)))) ∧ H' D = some (.dK (tabV vB Z.2))) ?_ ?_ ?_ ?_⟩
        · exact ⟨_, _, rfl, s6.trans s8, Stay.refl _, s8.seq hF3, s8 _ _ g1, s8 _ _ g2⟩
        · rintro j σ H' _ ⟨_, _, _, _, st5, _⟩
          exact st5.1 _ _ (SqT.of w3)
        · rintro j y z σ H6 H7 hj ⟨o6, o7, rfl, s9, st5, hF6, q1, q2⟩ s10 rfl
          have s11 := s9.trans s10
          have put : ∀ (L : Tab) (k v : Int), L.length ≤ 1000000 → H6 D1 = some (.dK (tabV V.int L)) → ∀ b : Addr, SqT K H7 b [.int k, .int v] →
              (Same H (upd H7 D1 (.dK (tabV V.int (addI L k v)))) ∧ Stay K H5 (upd H7 D1 (.dK (tabV V.int (addI L k v)))) ∧ SqL K (upd H7 D1 (.dK (tabV V.int (addI L k v)))) F ys ∧ (upd H7 D1 (.dK (tabV V.int (addI L k v)))) D = some (.dK (tabV vB Z.2))) := by
            intro L k v hL hD6 b hb6
            refine ⟨same_put s11 hD1, (st5.trans (Stay.same s10)).trans (Stay.dK (s10 _ _ hD6)), seq_put (s10.seq hF6) (s10 _ _ hD6), ?_⟩
            rw [upd_ne hDD]
            exact s10 _ _ q2
          have l0 : Z.1.length ≤ 1000000 := by omega
          have l1 : (addI Z.1 (d.1 - 1) (sentL ls d)).length ≤ 1000000 := Nat.le_trans len_add (by omega)
          match j, hj with
          | 0, hj =>
            cases hj
            rw [if_pos rfl] at q1
            have hb := (Stay.same (K := K) s10).1 _ _ (st5.1 _ _ (SqT.of w1))
            have q1' := s10 _ _ q1
            obtain ⟨p1, p2, p3, p4⟩ := put _ _ _ l0 q1 T1 hb
            refine ⟨T1, _, rfl, hb, rfl, _, _, rfl, _, _, rfl, rfl, ?_⟩
            exact ⟨_, rfl, D1, rfl, isd_tab q1', _, rfl, _, dg_tab q1', _, rfl, _, _, getD_tab, rfl, _, rfl, _, rfl, D1, _, rfl, dp_tab (v := gets Z.1 (d.1 - 1) + sentL ls d) q1' l0, _, _, rfl, p1, p2, p3, upd_same, p4⟩
          | 1, hj =>
            cases hj
            rw [if_neg (by decide), if_pos rfl] at q1
            have hb := (Stay.same (K := K) s10).1 _ _ (st5.1 _ _ (SqT.of w2))
            have q1' := s10 _ _ q1
            obtain ⟨p1, p2, p3, p4⟩ := put _ _ _ l1 q1 T2 hb
            refine ⟨T2, _, rfl, hb, rfl, _, _, rfl, _, _, rfl, rfl, ?_⟩
            exact ⟨_, rfl, D1, rfl, isd_tab q1', _, rfl, _, dg_tab q1', _, rfl, _, _, getD_tab, rfl, _, rfl, _, rfl, D1, _, rfl, dp_tab (v := gets (addI Z.1 (d.1 - 1) (sentL ls d)) (d.1 + 1) + (d.2 - sentL ls d)) q1' l1, _, _, rfl, p1, p2, p3, upd_same, p4⟩
          | j + 2, hj => simp at hj
        · rintro σ H' ⟨o6, o7, rfl, s9, st5, hF6, q1, q2⟩
          rw [show [V.ref T1, V.ref T2].length = 2 from rfl, if_neg (by decide), if_neg (by decide)] at q1
          have st6 := (st.trans (Stay.same s8)).trans st5
          refine ⟨_, rfl, _, rfl, rfl, _, rfl, ?_⟩
          have et : tickT ls (hs.take (i + 1)) = tickS ls Z d := by rw [tick_take hi, hZ]
          rw [et]
          by_cases e : sentL ls d = d.2 - sentL ls d
          · have e2 : (tickS ls Z d).2 = Z.2 := by unfold tickS; rw [if_pos e]
            rw [show (!decide (V.int (sentL ls d) = V.int (d.2 - sentL ls d))) = false by rw [← e]; simp]
            exact iteF ⟨_, _, _, _, _, rfl, s9, st6, hF6, q1, by rw [e2]; exact q2⟩
          · have e2 : (tickS ls Z d).2 = putI Z.2 d.1 (if gets Z.2 d.1 ≠ 0 then 0 else 1) := by unfold tickS; rw [if_neg e]
            rw [show (!decide (V.int (sentL ls d) = V.int (d.2 - sentL ls d))) = true by rw [decide_eq_false (fun h => e (V.int.inj h))]; rfl]
            have ev : V.bl (!decide (gets Z.2 d.1 ≠ 0)) = vB (if gets Z.2 d.1 ≠ 0 then 0 else 1) := by
              by_cases h : gets Z.2 d.1 ≠ 0
              · rw [if_pos h, decide_eq_true h]; rfl
              · rw [if_neg h, decide_eq_false h]; rfl
            have dp : DPut H' D (.int d.1) (V.bl (!decide (gets Z.2 d.1 ≠ 0))) (upd H' D (.dK (tabV vB (putI Z.2 d.1 (if gets Z.2 d.1 ≠ 0 then 0 else 1))))) := by
              rw [ev]
              exact dp_tab q2 (by omega)
            refine iteT ⟨_, rfl, D, rfl, isd_tab q2, _, rfl, _, dg_tab q2, _, getB_tab, _, rfl, _, rfl, D, _, rfl, dp, _, _, _, _, _, rfl, same_put s9 hD0, st6.trans (Stay.dK q2), seq_put hF6 q2, ?_, ?_⟩
            · rw [upd_ne (Ne.symm hDD)]; exact q1
            · rw [e2]; exact upd_same
      · rintro σ H' ⟨o3, o4, o5, o6, o7, rfl, s6, st, hF3, g1, g2⟩
        rw [List.take_length] at g1 g2
        have I := tick_all hln hn hp hs.length (Nat.le_refl _)
        rw [List.take_length] at I
        have il1 := I.l1
        have il2 := I.l2
        generalize hZ : tickT ls hs = Z at g1 g2 I il1 il2
        rw [hZ] at k
        have u1 := s6 _ _ h1
        have haD1 : a ≠ D1 := ne_of u1 g1 (by simp)
        have haD : a ≠ D := ne_of u1 g2 (by simp)
        refine ⟨D1, .dK _, g1, trivial, fun od => ⟨_, rfl, D1, od, _, rfl, upd_same, fun E1 hE1 => lc_src (Src.itab (d := D1) (o := od) (f := V.int) (L := Z.1)) (K := K) hE1 (isB K) (fun p => decide (0 < p.2)) (fun H' s => s _ _ upd_same) isB_stay (by omega) (fun i d x H1 Q1 Q0 s2 hi hx k1 k0 => ?_) (fun Hc ys sc hEc hpc => ?_)⟩⟩
        · obtain ⟨T1, rfl, hT1⟩ := hx
          refine ⟨T1, _, rfl, SqT.of hT1, rfl, _, _, rfl, _, _, rfl, rfl, rfl, _, rfl, _, _, rfl, rfl, _, rfl, ?_⟩
          by_cases e : 0 < d.2
          · refine dT e ⟨_, rfl, _, rfl, (by show 2 ≤ sizeLine; decide), fun q hq => ?_⟩
            exact k1 (decide_eq_true e) _ _ (same_new hq) ⟨q, rfl, upd_same⟩
          · exact dFa e (k0 (decide_eq_false e) _ (Same.refl _))
        · have hcD := sc _ _ (upd_same (H := H') (a := D1) (o := .frz od (.dK (tabV V.int Z.1))))
          refine ⟨hcD, ?_⟩
          have sd := lock_same g1 sc
          have stu : Stay K Hc (upd Hc D1 (.dK (tabV V.int Z.1))) := Stay.unlock hcD
          have hpc2 := L2.Paired.mapP hpc fun d y h => isB_stay d y _ _ stu h
          have hE2 : (upd Hc D1 (.dK (tabV V.int Z.1))) E1 = some (.lst ys) := by
            rw [upd_ne (fun e => by rw [e, upd_same] at hE1; cases hE1)]
            exact hEc
          obtain ⟨e1, e2⟩ := kH_all (K := K) hpc2
          generalize upd Hc D1 (.dK (tabV V.int Z.1)) = Hd at sd stu hpc2 hE2 e1 e2 ⊢
          refine ⟨E1, ys, kH Hd, rfl, SqL.of hE2, e2, fun zs p w1 w2 hp2 => ?_⟩
          have pm := w2.perm
          refine ⟨p, zs, rfl, SqL.of upd_same, fun q o hq ho => ?_⟩
          have s7 : Same Hd (upd (upd Hd p (.lst zs)) q (.frz o (.tup zs))) := (same_new (o := .lst zs) hp2).trans (same_new (o := .frz o (.tup zs)) hq)
          obtain ⟨ps, ez, pp⟩ := refs_isB (K := K) (H := upd (upd Hd p (.lst zs)) q (.frz o (.tup zs))) (H0 := Hd) (ys := zs) fun y hy => by
            obtain ⟨t, e, h⟩ := e2 y (pm.mem_iff.mp hy)
            exact ⟨t, e, s7 _ _ h⟩
          have hz1 : Hz K (upd (upd Hd p (.lst zs)) q (.frz o (.tup zs))) (.ref q) (zs.map (kH Hd)) := ⟨q, o, ps, rfl, ho, by rw [← ez]; exact upd_same, pp⟩
          have pmh : (zs.map (kH Hd)).Perm (Z.1.filter fun p => decide (0 < p.2)) := by rw [← e1]; exact pm.map _
          have sM := sd.trans s7
          generalize zs.map (kH Hd) = hs' at hz1 pmh
          generalize (upd (upd Hd p (.lst zs)) q (.frz o (.tup zs))) = M1 at hz1 sM ⊢
          have m1a := sM _ _ u1
          refine ⟨_, rfl, a, _, dx, _, rfl, m1a, T.c_Line, T.a_Line_heaps, (by show 3 < 1000; decide), ?_⟩
          have m2D : (upd M1 a (.ins (He.ga K "Line") dx (lineF t (.ref q) (.ref b)))) D = some (.dK (tabV vB Z.2)) := by
            rw [upd_ne (Ne.symm haD)]
            exact sM _ _ g2
          refine ⟨D, .dK _, m2D, trivial, fun od2 => ⟨_, rfl, D, od2, _, rfl, upd_same, fun E2 hE2 => lc_src (Src.itab (d := D) (o := od2) (f := vB) (L := Z.2)) (K := K) hE2 (fun d y _ => y = .int d.1) (fun p => decide (p.2 ≠ 0)) (fun H' s => s _ _ upd_same) (fun _ _ _ _ _ h => h) (by omega) (fun i d x H1 Q1 Q0 s2 hi hx k1 k0 => ?_) (fun Hf ys2 sf hEf hpf => ?_)⟩⟩
          · obtain ⟨T1, rfl, hT1⟩ := hx
            refine ⟨T1, _, rfl, SqT.of hT1, rfl, _, _, rfl, _, _, rfl, rfl, rfl, _, rfl, _, rfl, ?_⟩
            by_cases e : d.2 ≠ 0
            · exact dT e ⟨_, rfl, k1 (decide_eq_true e) _ _ (Same.refl _) rfl⟩
            · exact dFa e (k0 (decide_eq_false e) _ (Same.refl _))
          · have hfD := sf _ _ (upd_same (H := upd M1 a (.ins (He.ga K "Line") dx (lineF t (.ref q) (.ref b)))) (a := D) (o := .frz od2 (.dK (tabV vB Z.2))))
            refine ⟨hfD, ?_⟩
            have sg := lock_same m2D sf
            have hE3 : (upd Hf D (.dK (tabV vB Z.2))) E2 = some (.lst ys2) := by
              rw [upd_ne (fun e => by rw [e, upd_same] at hE2; cases hE2)]
              exact hEf
            have ey := paired_val (f := fun (d : Int × Int) => V.int d.1) hpf
            have ey2 : ys2 = ((Z.2.filter fun p => decide (p.2 ≠ 0)).map (·.1)).map V.int := by rw [ey, List.map_map]; rfl
            subst ey2
            generalize upd Hf D (.dK (tabV vB Z.2)) = Hg at sg hE3 ⊢
            refine ⟨E2, _, rfl, SqL.of hE3, fun ns' p2 pm2 _ hp3 => ⟨p2, _, rfl, .inl ⟨SqL.of upd_same, fun q2 hq2 => ?_⟩⟩⟩
            have s8 : Same Hg (upd (upd Hg p2 (.lst (ns'.map V.int))) q2 (.tup (ns'.map V.int))) := (same_new (o := .lst (ns'.map V.int)) hp3).trans (same_new (o := .tup (ns'.map V.int)) hq2)
            have tl : Tp K (upd (upd Hg p2 (.lst (ns'.map V.int))) q2 (.tup (ns'.map V.int))) (.ref q2) (dI ns') := tpI (SqT.of upd_same)
            have sN := sg.trans s8
            generalize (upd (upd Hg p2 (.lst (ns'.map V.int))) q2 (.tup (ns'.map V.int))) = M3 at tl sN ⊢
            have m3a := sN _ _ (upd_same (H := M1) (a := a) (o := .ins (He.ga K "Line") dx (lineF t (.ref q) (.ref b))))
            refine ⟨_, rfl, a, _, dx, _, rfl, m3a, T.c_Line, T.a_Line_lefts, (by show 3 < 1000; decide), ?_⟩
            refine ⟨_, rfl, a, _, dx, _, _, rfl, upd_same, T.c_Line, T.a_Line_tick, rfl, _, _, rfl, rfl, _, rfl, a, _, dx, _, rfl, upd_same, T.c_Line, T.a_Line_tick, (by show 3 < 1000; decide), ?_⟩
            refine ⟨_, rfl, a, _, dx, _, _, rfl, upd_same, T.c_Line, T.a_Line_tick, rfl, ?_⟩
            have x3 : SameX a M3 _ := (SameX.upd (a := a) (o := .ins (He.ga K "Line") dx (lineF t (.ref q) (.ref q2))) (H := M3)).trans (SameX.upd (a := a) (o := .ins (He.ga K "Line") dx (lineF (t + 1) (.ref q) (.ref q2))))
            have x1 := (SameX.upd (a := a) (o := .ins (He.ga K "Line") dx (lineF t (.ref q) (.ref b))) (H := M1)).trans ((SameX.of sN).trans x3)
            exact k _ hs' ns' ((SameX.of (s6.trans sM)).trans x1) pmh pm2 ⟨dx, _, _, upd_same, x1.hz m1a hz1, Tp.stay (x3.stay m3a) tl⟩
end
end Nw
namespace Nw
open PySem PySem.Spec PyProof.Rows L2 Nd
/-- the line at a stands at tick t, begun with heaps h and lefts l -/
def LineIs (K : PySem.W.Frag) (H : Hp) (a : Addr) (h : HF) (l : LF) (t : Nat) : Prop := ∃ hs ls, LineAt K H a t hs ls ∧ gets hs = evH h l t ∧ isIn ls = evL h l t ∧ (hs.map (·.1)).Nodup ∧ ls.Nodup ∧ (∀ p ∈ hs, 0 ≤ p.2) ∧ hs.length ≤ 2 ^ t * 1000 ∧ ls.length ≤ 2 ^ t * 1000
theorem LineIs.same {K : PySem.W.Frag} {H H' : Hp} {a : Addr} {h : HF} {l : LF} {t : Nat} (x : LineIs K H a h l t) (s : Same H H') : LineIs K H' a h l t := by
  obtain ⟨hs, ls, la, r⟩ := x
  exact ⟨hs, ls, la.same s, r⟩
theorem pow_le6 {t : Nat} (h : t ≤ 6) : 2 ^ t ≤ 64 := by
  have : 2 ^ t ≤ 2 ^ 6 := Nat.pow_le_pow_right (by decide) h
  exact this
section
variable {P : Program} {w : World} {K : PySem.W.Frag} {mg : Str → Option Value} {base : Heap}
abbrev N_Line_forward : List Str := ["self", "many", "_"]
theorem sc_Line_forward : FnScope N_Line_forward ["self", "many"] (defScope s_Line_forward) := ⟨rfl, rfl, rfl, by decide +kernel, rfl, by decide +kernel, by decide +kernel⟩
def sp_fwd (K : PySem.W.Frag) : Sp := fun vs H Q _ => ∃ (a : Addr) (h : HF) (l : LF) (t m : Nat), vs = [.ref a, .int m] ∧ LineIs K H a h l t ∧ t + m ≤ 6 ∧ ∀ H', SameX a H H' → LineIs K H' a h l (t + m) → Q (.int (t + m)) H'
theorem O_forward (T : Tx K mg) : Ok P w K mg base 4 (He.ma K (He.ga K "Line") "forward") ["self", "many"] (sp_fwd K) := by
  have O_need_number := O_need_number (P := P) (w := w) (base := base) T
  have O_advance := O_advance (P := P) (w := w) (base := base) T
  refine Ok.mk T.f_Line_forward sc_Line_forward (fun vs H Q E h => ?_) (fun _ _ _ _ _ _ us hl => match us, hl with | [_, _], _ => rfl) (fun cdv A outer s H vs Q E hr h => ?_)
  · obtain ⟨a, h, l, t, m, rfl, _⟩ := h; rfl
  · obtain ⟨a, h, l, t, m, rfl, la, hm, k⟩ := h
    refine ⟨_, (pss_cons (ps_expr (pe_fn O_need_number (hr.mono (by decide)) T.g_need_number (pa_cons (pv 1) (pa_cons pe_str (pa_cons pe_int (pa_cons (pe_glob (v := .int 200) (by rfl) T.i_MOST_TICKS.choose_spec ⟨_, rfl⟩) pa_nil))))))
      (pss_cons (ps_for PassesOwn.never rfl (pi_range1 (by rfl) T.z_range (pa_cons (pv 1) pa_nil)) (pg_name (i := 2) sc_Line_forward.nd rfl (.inl rfl) (by first | exact .inl rfl | exact .inr rfl))
      (pss_one (ps_expr (pe_mt0 O_advance T.c_Line T.m_Line_advance (hr.mono (by decide)) (pv 0)))))
      (pss_one (ps_ret (pe_fld (pv 0) rfl))))), ?_⟩
    refine ⟨_, rfl, _, _, some 0, some 200, rfl, (fun _ e => by cases e; omega), (fun _ e => by cases e; omega), ?_⟩
    refine ⟨_, rfl, _, rfl, by omega, by omega, for_src (Src.range (lo := 0) (n := ((m : Nat) : Int).toNat)) (fun i σ H' => ∃ o, σ = [some (.ref a), some (.int m), o] ∧ SameX a H H' ∧ LineIs K H' a h l (t + i)) ?_ ?_ ?_ ?_⟩
    · exact ⟨_, rfl, SameX.refl, la⟩
    · intro i σ H' _ _
      exact trivial
    · rintro i d x σ H1 H2 hi ⟨o, rfl, sx, hs, ls, l1, l2, l3, l4, l5, l6, l7, l8⟩ s2 rfl
      have hlt := (List.getElem?_eq_some_iff.mp hi).1
      rw [List.length_range] at hlt
      have p6 := pow_le6 (t := t + i) (by omega)
      obtain ⟨dx, u, v, g1, g2, g3⟩ := l1
      have g1' := s2 _ _ g1
      refine ⟨_, rfl, a, dx, _, rfl, g1', rfl, a, _, hs, ls, rfl, ⟨dx, u, v, g1', g2.same s2, g3.same s2⟩, l4, l6, l5, by omega, by omega, fun H3 hs' ls' sx2 pm1 pm2 la' => ?_⟩
      obtain ⟨q1, q2, q3, q4, q5, q6, q7⟩ := tick_done l5 l4 l6 pm1 pm2
      refine ⟨_, rfl, (sx.trans (SameX.of s2)).trans sx2, hs', ls', la', ?_, ?_, q3, q4, fun p hp => by have := q5 p hp; omega, ?_, ?_⟩
      · rw [q1, l2, l3]; rfl
      · rw [q2, l2, l3]; rfl
      · rw [← Nat.add_assoc, Nat.pow_succ]; omega
      · rw [← Nat.add_assoc, Nat.pow_succ]; omega
    · rintro σ H' ⟨o, rfl, sx, li⟩
      rw [List.length_range, Int.toNat_natCast] at li
      have li2 := li
      obtain ⟨hs, ls, ⟨dx, u, v, g1, _, _⟩, _⟩ := li
      refine ⟨_, rfl, a, _, dx, _, _, rfl, g1, T.c_Line, T.a_Line_tick, rfl, ?_⟩
      exact k _ sx li2
end
end Nw
namespace Nw
open PySem PySem.Spec PyProof.Rows L2 Nd
/-! a dict comprehension whose keys are tuples -/
theorem put_tup {X : Cx} {pins : List (Addr × Obj)} {σ : L2.St} {H : Hp} {s : Shared} {E : Value → Shared → Prop} {D b : Addr} {kvs : List (List Key × V)} {k : List Key} {v : V} {r : Value} {Q : Unit → Shared → Prop} (hu : X.A.units + 1 < cLine) (I : Inv X pins σ H s) (hD : H D = some (.dT kvs))
    (hb : H b = some (.tup (k.map kV))) (hz : kvs.length < sizeLine) (rv : RelV v r) (h : ∀ s', Inv X pins σ (upd H D (.dT (putK kvs k v))) s' → Q () s') : wpAny (model X.prog X.w) X.A (dictSet D (.ref b) r) Q E s := by
  obtain ⟨z, hd, xs, rel, dd⟩ := dt_of I.hok hD
  have hx : xs.length ≤ sizeLine := by
    rw [← Paired.length rel]
    exact z
  have hl := length_putK kvs k v
  refine wpAny_dictSet_heap (hsz := hx) (show X.A.units < cLine by omega) (key_of I.hok hb) dd fun h' dd' hs => h _ ?_
  obtain ⟨q, es, ep, hq, g2, g3, g4, _, g5⟩ := dd'
  refine d_write I (by rw [hD]; exact True.intro) hs ⟨q, hq⟩ ⟨by omega, hd, _, (rel.put k hb rv).keeps fun c ys ec => ?_, q, es, ep, hq, g2, g3, g4, g5⟩
  rw [upd_ne (ne_of ec hD (fun z => nomatch z))]
  exact ec
def tDcT (wi : TI) (g : TG) (tt : TT) (tk tv : TE) (vs : List Nat) : TE := fun σ H Q => wi σ H fun J H1 => ∀ D, H1 D = none → ∃ W : Nat → Nat → Hp → Prop, (∃ m, W 0 m (upd H1 D (.dT []))) ∧ ∀ i m H, W i m H →
  (J.stop i H ∧ Q (.ref D) H) ∨ (J.go i H ∧ ∃ Nx : Hp → Prop, (∀ H', Nx H' → ∃ m', m' < m ∧ W (i + 1) m' H') ∧ ∀ x H', J.yld i H x H' → g x (wipe σ vs) H' fun σ2 H2 => wipe σ2 vs = wipe σ vs ∧ tt σ2 H2 fun b H3 =>
    if b = true then tk σ2 H3 fun y H4 => tv σ2 H4 fun z H5 => ∃ kvs k q, y = .ref q ∧ H5 q = some (.tup (k.map kV)) ∧ H5 D = some (.dT kvs) ∧ kvs.length < sizeLine ∧ Nx (upd H5 D (.dT (putK kvs k z))) else Nx H3)
section
variable {X : Cx}
theorem dcT_core {pins : List (Addr × Obj)} {s : Shared} {σ : L2.St} {H : Hp} {Q : VK} {kx vx tg iter : Expr} {ifs : List Expr} {scope : Scope} {own : List (Str × Nat)} {pos pos' : Pos} {wi : TI} {g : TG} {tt : TT} {tk tv : TE} {use : Option (Value → Sem Unit)} {Qf : Value → Shared → Prop}
    (hu : X.A.units + 1 < cLine) (hc : X.calm = true) (hN : X.N.Nodup) (I : Inv X pins σ H s) (hi : PI X tg iter wi) (ok : BlkOk X.N X.env.scope scope own)
    (hg : ∀ (s : Shared) (H : Hp) (C : Addr) (cl : List (Str × Addr)) (fp : List Addr), PG (X.blk s H scope (compEnvC scope cl C X.env) fp) tg g) (ht : ∀ (s : Shared) (H : Hp) (C : Addr) (cl : List (Str × Addr)) (fp : List Addr), PTs (X.blk s H scope (compEnvC scope cl C X.env) fp) ifs tt)
    (hk : ∀ (s : Shared) (H : Hp) (C : Addr) (cl : List (Str × Addr)) (fp : List Addr), PE (X.blk s H scope (compEnvC scope cl C X.env) fp) kx tk)
    (he : ∀ (s : Shared) (H : Hp) (C : Addr) (cl : List (Str × Addr)) (fp : List Addr), PE (X.blk s H scope (compEnvC scope cl C X.env) fp) vx tv) (hs : ∀ x, foldedSetIterable iter X.env x = pure x)
    (h : tDcT wi g tt tk tv (own.map (·.2)) σ H Q)
    (hRR : ∀ D C s' m H', Inv X pins σ H' s' → Q (.ref D) H' → s'.heap.Ns C m → FpOk X pins H' C → compPost (model X.prog X.w) X.A X.xe use Qf (.ref D) C (.ok .next) s') :
    wpAny (model X.prog X.w) X.A (comprehension (.DictComp kx vx [⟨tg, iter, ifs, 0⟩] scope pos) scope X.env pos' newDict false (eval iter X.env) use) Qf X.xe s := by
  have hfree : ∀ y ∈ scope.names, y.2 = .free → ∃ c, X.env.cells.lookup y.1 = some c := fun y hy e => (ok.free y hy e).elim (fun k => I.ok.has _ (.inl k)) fun k => I.ok.has _ (.inr k)
  refine wpAny_comprehension_free (use := use) rfl hs (closure_ok hfree) ok.kind (fun y hy e => by rw [ok.uniq y hy, e]) (thn (hi.run pins s σ H _ I h) fun xv s1 hx => thn hx fun itv s2 h2 => ?_)
  obtain ⟨it, fp, tn, J, H2, e, I2, T, st2, f2, q⟩ := h2
  subst e
  refine wpAny_newObj_type (newEnv_comp ?_)
  generalize hD : s2.heap.objs.size = D
  have hDn : H2 D = none := I2.hok.fresh (Nat.le_of_eq hD)
  obtain ⟨W, ⟨m0, w0⟩, turn⟩ := q D hDn
  generalize hs3 : ({ s2 with heap := s2.heap.push { cls := .type "dict", data := .dict #[] } } : Shared) = s3
  have h3 : s3.heap = s2.heap.push { cls := .type "dict", data := .dict #[] } := by rw [← hs3]
  have I3 : Inv X pins σ (upd H2 D (.dT [])) s3 := by
    rw [← hs3, ← hD]
    exact I2.laid (t' := s2.toks) (fun b o e => Heap.get?_push_of_some _ e) (Nat.le_refl _) (dt_empty s2.heap I2.big)
  have lo : ∀ b ∈ fp, b < s2.heap.objs.size := fun b hb => (T.obj _ _ st2 b hb).elim fun o e => Heap.lt_size e.1
  have f3 : ∀ b ∈ fp, FpOk X pins (upd H2 D (.dT [])) b ∧ b < s3.heap.objs.size := fun b hb => by
    refine ⟨⟨?_, (f2 b hb).2⟩, by rw [h3, Heap.size_push]; exact Nat.lt_succ_of_lt (lo b hb)⟩
    rw [upd_ne (by rw [← hD]; exact Nat.ne_of_lt (lo b hb))]
    exact (f2 b hb).1
  have st3 : tn 0 s3.heap := T.keep _ _ _ st2 fun b _ o e => by rw [h3]; exact Heap.get?_push_of_some _ e
  have I4 := block_start I3 ok hN f3
  have pg := hg s3 (upd H2 D (.dT [])) s3.heap.objs.size (cellsFrom (s3.heap.objs.size + 1) scope.names (cloFrom X.env.cells scope.names [])) fp
  have pt := ht s3 (upd H2 D (.dT [])) s3.heap.objs.size (cellsFrom (s3.heap.objs.size + 1) scope.names (cloFrom X.env.cells scope.names [])) fp
  have pk := hk s3 (upd H2 D (.dT [])) s3.heap.objs.size (cellsFrom (s3.heap.objs.size + 1) scope.names (cloFrom X.env.cells scope.names [])) fp
  have pe := he s3 (upd H2 D (.dT [])) s3.heap.objs.size (cellsFrom (s3.heap.objs.size + 1) scope.names (cloFrom X.env.cells scope.names [])) fp
  show codeAny _ _ (.compStart (.DictComp kx vx [⟨tg, iter, ifs, 0⟩] scope pos) 0 (.ref it) (.ref D) (compEnvC scope (cellsFrom (s3.heap.objs.size + 1) scope.names (cloFrom X.env.cells scope.names [])) s3.heap.objs.size X.env)) (compPost (model X.prog X.w) X.A X.xe use Qf (.ref D) s3.heap.objs.size) { s3 with heap := pushCells (s3.heap.push { cls := .type "dict", data := .dict #[] }) scope.names }
  have nfp : ∀ b ∈ fp, (upd H2 D (.dT [])) b = none := fun b hb => (f3 b hb).1.1
  generalize hce : compEnvC scope (cellsFrom (s3.heap.objs.size + 1) scope.names (cloFrom X.env.cells scope.names [])) s3.heap.objs.size X.env = ce at I4 pg pt pk pe ⊢
  have cL : ce.locals = s3.heap.objs.size := by subst hce; rfl
  generalize hH3 : upd H2 D (.dT []) = H3 at I3 I4 pg pt pk pe w0 nfp f3
  generalize hs4 : ({ s3 with heap := pushCells (s3.heap.push { cls := .type "dict", data := .dict #[] }) scope.names } : Shared) = s4 at I4 ⊢
  have st4 : tn 0 s4.heap := T.keep _ _ _ st3 fun b _ o e => by rw [← hs4]; exact pushCells_keeps _ _ _ _ (Heap.get?_push_of_some _ e)
  have stat : ∀ {σ' : L2.St} {H' : Hp} {s' : Shared}, Inv (X.blk s3 H3 scope ce fp) [] σ' H' s' → (∀ b ∈ fp, H' b = none) → ∀ b ∈ fp, FpOk (X.blk s3 H3 scope ce fp) [] H' b := fun {σ' H' s'} I' hn b hb =>
    ⟨hn b hb, (I'.ok.exf b hb).1, I'.ok.exfs b hb, .inl hb, fun x c e => (I'.ok.exf b hb).2 x c e, fun p hp => absurd (show p ∈ ([] : List (Addr × Obj)) ++ [] from hp) (by simp)⟩
  let Go : Nat → Shared → Prop := fun n s' => ∃ i H', Inv (X.blk s3 H3 scope ce fp) [] (wipe σ (own.map (·.2))) H' s' ∧ tn i s'.heap ∧ (∀ b ∈ fp, H' b = none) ∧ W i n H'
  refine codeAny_compStart_dict ?loop (T.self X.A 0 _ _ _ st4 ?loop)
  refine compLoop_anyD Go ?_ m0 ⟨0, H3, I4, st4, nfp, w0⟩
  rintro n s5 ⟨i, H5, I5, st5, n5, w5⟩
  rcases turn i n H5 w5 with ⟨stop, qq⟩ | ⟨go, Nx, hNx, step⟩
  · refine thnF (T.done (X.blk s3 H3 scope ce fp) rfl rfl rfl hc i [] s5 _ H5 (fun _ _ => False) I5 (stat I5 n5) st5 stop) fun r s6 ⟨hr, I6⟩ => ?_
    subst hr
    have I7 : Inv X pins σ H5 s6 := I3.call' (ch := fp) I6.os I6.base I6.hok I6.bare fun b hb => ⟨(f3 b hb).1.2.2.2.1, (f3 b hb).1.2.1, (f3 b hb).1.2.2.2.2.1, (f3 b hb).1.2.2.2.2.2⟩
    have nC : H5 ce.locals = none := I6.free
    obtain ⟨m, hn, _⟩ := I6.loc
    have hn : s6.heap.Ns ce.locals m := hn
    rw [cL] at hn nC
    exact hRR D s3.heap.objs.size s6 m H5 I7 qq hn (I3.fpOk (Nat.le_refl _) nC)
  · refine thnF (T.item (X.blk s3 H3 scope ce fp) rfl rfl rfl hc i [] s5 _ H5 (fun _ _ => False) I5 (stat I5 n5) st5 go) fun r s6 ⟨u, hr, h6⟩ => ?_
    subst hr
    refine thnF h6 fun _ s7 ⟨x, H7, I7, r7, y7, st7, n7⟩ => ?_
    refine thnF (pg.run _ s7 _ H7 x u _ (I7.pinned (stat I7 n7) (T.obj _ _ st7)) r7 (step x H7 y7)) fun _ s8 ⟨σ8, H8, I8, hw8, q8⟩ => ?_
    refine thnF (pt.run _ s8 σ8 H8 _ I8 q8) fun b s9 ⟨H9, I9, q9⟩ => ?_
    have fin : ∀ {s' : Shared} {H' : Hp}, Inv (X.blk s3 H3 scope ce fp) ([] ++ pinsAt fp s7.heap) σ8 H' s' → Nx H' → ∃ m, m < n ∧ Go m s' := fun {s' H'} I' nx => by
      obtain ⟨m', hm, w'⟩ := hNx H' nx
      have pinned : ∀ b ∈ fp, ∀ o, s7.heap.get? b = some o → s'.heap.get? b = some o ∧ H' b = none := fun b hb o e =>
        let z := I'.pin (b, o) (List.mem_append_right _ (List.mem_append_right _ (mem_pinsAt hb e)))
        ⟨z.1, z.2.1⟩
      refine ⟨m', hm, i + 1, H', (I'.unpinned (pins := [])).weak (by rw [← hw8, wipe_length]) (fun j v e => ?_), T.keep _ _ _ st7 fun b hb o e => (pinned b hb o e).1, fun b hb => ?_, w'⟩
      · rw [← hw8] at e
        exact (wipe_some e).1
      · obtain ⟨o, e, _⟩ := T.obj _ _ st7 b hb
        exact (pinned b hb o e).2
    cases b with
    | false =>
      simp only [Bool.false_eq_true, if_false] at q9 ⊢
      exact fin I9 q9
    | true =>
      simp only [if_true] at q9 ⊢
      refine thnF (pk.run _ s9 σ8 H9 _ I9 q9) fun z s10 ⟨yk, H10, I10, r10, q10⟩ => ?_
      refine thnF (pe.run _ s10 σ8 H10 _ I10 q10) fun z2 s11 ⟨yv, H11, I11, r11, kvs, k, qa, ek, hqa, hD11, hz11, nx⟩ => ?_
      subst ek
      obtain rfl : z = Value.ref qa := r10
      exact put_tup (X := X.blk s3 H3 scope ce fp) hu I11 hD11 hqa hz11 r11 fun s12 I12 => fin I12 nx
/-- as a value -/
theorem pe_dcT {kx vx tg iter : Expr} {ifs : List Expr} {scope : Scope} {own : List (Str × Nat)} {pos : Pos} {wi : TI} {g : TG} {tt : TT} {tk tv : TE} (hu : X.A.units + 1 < cLine) (hc : X.calm = true) (hN : X.N.Nodup) (hi : PI X tg iter wi) (ok : BlkOk X.N X.env.scope scope own)
    (hg : ∀ (s : Shared) (H : Hp) (C : Addr) (cl : List (Str × Addr)) (fp : List Addr), PG (X.blk s H scope (compEnvC scope cl C X.env) fp) tg g) (ht : ∀ (s : Shared) (H : Hp) (C : Addr) (cl : List (Str × Addr)) (fp : List Addr), PTs (X.blk s H scope (compEnvC scope cl C X.env) fp) ifs tt)
    (hk : ∀ (s : Shared) (H : Hp) (C : Addr) (cl : List (Str × Addr)) (fp : List Addr), PE (X.blk s H scope (compEnvC scope cl C X.env) fp) kx tk)
    (he : ∀ (s : Shared) (H : Hp) (C : Addr) (cl : List (Str × Addr)) (fp : List Addr), PE (X.blk s H scope (compEnvC scope cl C X.env) fp) vx tv) (hs : ∀ x, foldedSetIterable iter X.env x = pure x := by intro _; rfl) :
    PE X (.DictComp kx vx [⟨tg, iter, ifs, 0⟩] scope pos) (tDcT wi g tt tk tv (own.map (·.2))) := by
  refine ⟨fun pins s σ H Q I h => ?_⟩
  rw [arm_eval_DictComp]
  refine dcT_core hu hc hN I hi ok hg ht hk he hs h fun D C s' m H' I' q hn f => ⟨m, hn, fun h2 sb => ?_⟩
  exact ⟨.ref D, H', I'.turned (t' := s'.toks) (fun b o hb e => (sb.2 b hb).trans e) f.1 f.2.1 f.2.2.2.1 f.2.2.2.2.1 f.2.2.2.2.2, rfl, q⟩
end
theorem yesT {tk tv : TE} {σ : L2.St} {H : Hp} {Q2 : V → V → Hp → Prop} {Q0 : Hp → Prop} (h : tk σ H fun y H4 => tv σ H4 fun z H5 => Q2 y z H5) : tYes σ H fun b H3 => if b = true then tk σ H3 fun y H4 => tv σ H4 fun z H5 => Q2 y z H5 else Q0 H3 := by
  show if true = true then _ else Q0 H
  rw [if_pos rfl]
  exact h
/-- a dict comprehension over such, the keys tuples, no two alike: the table by the turn -/
theorem dcT_src {α : Type} {J : It} {G : Hp → Prop} {ds : List α} {F : α → V → Hp → Prop} (S : Src J G ds F) {g : TG} {tt : TT} {tk tv : TE} {vs : List Nat} {σ : L2.St} {H : Hp} {D : Addr} {Qd : Hp → Prop} (hD : H D = none) (ky : α → List Key) (val : α → V) (hn : (ds.map ky).Nodup)
    (hG : ∀ H', Same H H' → G H') (hz : ds.length ≤ 1000000)
    (step : ∀ (i : Nat) (d : α) (x : V) (H1 : Hp) (Q2 : V → V → Hp → Prop) (Q0 : Hp → Prop), Same H H1 → ds[i]? = some d → F d x H1 → (∀ q H4, Same H1 H4 → H4 q = some (.tup ((ky d).map kV)) → Q2 (.ref q) (val d) H4) →
      g x (wipe σ vs) H1 fun σ2 H2 => wipe σ2 vs = wipe σ vs ∧ tt σ2 H2 fun b H3 => if b = true then tk σ2 H3 fun y H4 => tv σ2 H4 fun z H5 => Q2 y z H5 else Q0 H3)
    (k : ∀ H', Same H H' → H' D = some (.dT (ds.map fun d => (ky d, val d))) → Qd H') :
    ∃ W : Nat → Nat → Hp → Prop, (∃ m, W 0 m (upd H D (.dT []))) ∧ ∀ i m H, W i m H →
      (J.stop i H ∧ Qd H) ∨ (J.go i H ∧ ∃ Nx : Hp → Prop, (∀ H', Nx H' → ∃ m', m' < m ∧ W (i + 1) m' H') ∧ ∀ x H', J.yld i H x H' → g x (wipe σ vs) H' fun σ2 H2 => wipe σ2 vs = wipe σ vs ∧ tt σ2 H2 fun b H3 =>
        if b = true then tk σ2 H3 fun y H4 => tv σ2 H4 fun z H5 => ∃ kvs k q, y = .ref q ∧ H5 q = some (.tup (k.map kV)) ∧ H5 D = some (.dT kvs) ∧ kvs.length < sizeLine ∧ Nx (upd H5 D (.dT (putK kvs k z))) else Nx H3) := by
  let Pv : Nat → Hp → Prop := fun i H' => Same H H' ∧ H' D = some (.dT ((ds.take i).map fun d => (ky d, val d)))
  refine ⟨fun i m H' => i ≤ ds.length ∧ m = ds.length - i ∧ Pv i H', ⟨_, Nat.zero_le _, rfl, same_new hD, by rw [upd_same]; rfl⟩, ?_⟩
  rintro i m H' ⟨hi, rfl, s, hy⟩
  have g0 := hG H' s
  by_cases e : i = ds.length
  · subst e
    rw [List.take_length] at hy
    exact .inl ⟨S.stop H' g0, k H' s hy⟩
  · have hlt : i < ds.length := by omega
    refine .inr ⟨S.go i H' g0 hlt, Pv (i + 1), fun H2 h => ⟨ds.length - (i + 1), by omega, by omega, rfl, h⟩, fun x H1 y => ?_⟩
    have ed : ds[i]? = some ds[i] := List.getElem?_eq_getElem hlt
    obtain ⟨s1, f1⟩ := S.yld i _ x H' H1 g0 ed y
    refine step i _ x H1 _ (Pv (i + 1)) (s.trans s1) ed f1 (fun q H4 s4 hq => ?_)
    have hD4 := s4 _ _ (s1 _ _ hy)
    refine ⟨_, ky ds[i], q, rfl, hq, hD4, ?_, same_put ((s.trans s1).trans s4) hD, ?_⟩
    · rw [List.length_map, List.length_take]; exact Nat.lt_of_le_of_lt (by omega : _ ≤ 1000000) (by decide)
    · rw [upd_same, List.take_succ, ed, List.map_append]
      congr 2
      have fresh : (((ds.take i).map fun d => (ky d, val d)).any fun kv => decide (kv.1 = ky ds[i])) = false := by
        rw [List.any_map, List.any_eq_false]
        intro d hd
        simp only [Function.comp, decide_eq_true_eq]
        intro ek
        obtain ⟨j, hj, ej⟩ := List.mem_iff_getElem.mp hd
        rw [List.length_take] at hj
        rw [List.getElem_take] at ej
        have ne := List.pairwise_iff_getElem.mp (List.nodup_iff_pairwise_ne.mp hn) j i (by rw [List.length_map]; omega) (by rw [List.length_map]; exact hlt) (by omega)
        rw [List.getElem_map, List.getElem_map, ej] at ne
        exact ne ek
      unfold putK
      rw [fresh]
      rfl
end Nw
namespace Nw
open PySem PySem.Spec PyProof.Rows L2 Nd
/-! for k, v in d.items(), d with tuple keys -/
theorem frzT_all {X : Cx} {pins : List (Addr × Obj)} {σ : L2.St} {H : Hp} {s : Shared} {d : Addr} {o : Obj} {kvs : List (List Key × V)} (I : Inv X pins σ H s) (h : H d = some (.frz o (.dT kvs))) :
    (d == sysModules) = false ∧ s.heap.get? d = some o ∧ o.ExactDict ∧ ∃ (es : Array DictEntry) (ep : Nat), o.data = .dict es ep ∧ es.size = kvs.length ∧
      ∀ (i : Nat) (k : List Key) (v : V), kvs[i]? = some (k, v) → ∃ (en : DictEntry) (q : Addr), es[i]? = some en ∧ en.key = .ref q ∧ H q = some (.tup (k.map kV)) ∧ RelV v en.val := by
  obtain ⟨hd, z, hs, xs, pr, o', es, ep, ho, hx, hdt, he, _⟩ := I.hok d _ h
  have eo : o' = o := Option.some.inj (ho.symm.trans hd)
  subst eo
  have l1 : es.size = xs.length := size_of_entries he
  have l2 : kvs.length = xs.length := Paired.length pr
  refine ⟨hs, hd, hx, es, ep, hdt, by omega, fun i k v e => ?_⟩
  obtain ⟨b, hb, e1, e2, e3⟩ := L2.paired_get pr e
  have q := entry_at he i
  rw [hb] at q
  exact ⟨_, b.2.1, q, rfl, e2, e3⟩
def ItiT (d : Addr) (o : Obj) (kvs : List (List Key × V)) : It :=
  ⟨fun i H => H d = some (.frz o (.dT kvs)) ∧ i < kvs.length, fun i H x H' => ∃ T k v q, kvs[i]? = some (k, v) ∧ x = .ref T ∧ H T = none ∧ H q = some (.tup (k.map kV)) ∧ H' = upd H T (.tup [.ref q, v]), fun i H => H d = some (.frz o (.dT kvs)) ∧ kvs.length ≤ i⟩
theorem turn_itemsT {P : Program} {w : World} {K : PySem.W.Frag} {d : Addr} {o : Obj} {es : Array DictEntry} {ep : Nat} {kvs : List (List Key × V)} {elts : List Expr} {kk : Nat} {tpos : Pos} (it : Addr) (hod : o.data = .dict es ep) :
    Turn P w K (.Tuple elts kk tpos) (ItiT d o kvs) [it] it (fun i h => ∃ ok ov, IsItemIter h it d i kvs.length ep ok ov) where
  mem := by simp
  obj := fun i h st b hb => by
    rw [List.mem_singleton] at hb
    subst hb
    obtain ⟨ok, ov, e⟩ := st
    exact ⟨_, e, fun v z => nomatch z⟩
  keep := fun i h h' st k => let ⟨ok, ov, e⟩ := st; ⟨ok, ov, k it (by simp) _ e⟩
  item := by
    intro X hP hw hK hc i pins s σ H E I hf st hg
    subst hP hw hK
    obtain ⟨hd, hi⟩ := hg
    obtain ⟨hs, hgd, hx, es', ep', hdt, hsz, ent⟩ := frzT_all I hd
    obtain ⟨rfl, rfl⟩ := dict_ep hod hdt
    obtain ⟨⟨k, v⟩, hkv⟩ : ∃ p, kvs[i]? = some p := ⟨kvs[i], List.getElem?_eq_getElem hi⟩
    obtain ⟨en, q, hen, hkey, hq, hv⟩ := ent i k v hkv
    obtain ⟨ok, ov, he⟩ := st
    have hlt : it < s.heap.objs.size := Heap.lt_size he
    have hie : i < es'.size := by omega
    have ee : es'[i] = en := by
      have := Array.getElem?_eq_getElem hie
      rw [hen] at this
      exact (Option.some.inj this).symm
    rw [← hsz] at he
    refine DT.nextI he ⟨o, hgd, hx, hdt⟩ hie fun h' ho hT hz hk => ?_
    rw [ee] at ho hT
    refine ⟨_, rfl, wpAny_letOwnedTupleGo_items (s := { s with heap := h' }) ho fun h2 he' sb => ?_⟩
    have hT2 := (sb.2 _ (Nat.ne_of_gt hlt)).trans hT
    have new : ObjOk X.prog X.w (upd H s.heap.objs.size (.tup [.ref q, v])) h2 s.heap.objs.size (.tup [.ref q, v]) :=
      ⟨by show 2 ≤ sizeLine; decide, [en.key, en.val], .cons hkey (.cons hv .nil), ⟨_, hT2, rfl, _, rfl⟩⟩
    have I1 : Inv X pins σ (upd H s.heap.objs.size (.tup [.ref q, v])) { s with heap := h2 } :=
      I.turnedNew (t' := s.toks) (ch := [it]) (fun b ob hb e => (sb.2 b (by simpa using hb)).trans (hk b ob (by simpa using hb) e)) hf (Nat.le_refl _) new
    refine ⟨.ref s.heap.objs.size, _, I1, rfl, ⟨_, k, v, q, hkv, rfl, I.hok.fresh (Nat.le_refl _), hq, rfl⟩, ⟨en.key, en.val, ?_⟩, fun b hb => ?_⟩
    · rw [← hsz]; exact he'
    · rw [List.mem_singleton] at hb
      rw [hb, upd_ne (Nat.ne_of_lt hlt)]
      exact (hf it (by simp)).1
  done := by
    intro X hP hw hK hc i pins s σ H E I hf st hg
    subst hP hw hK
    obtain ⟨hd, hi⟩ := hg
    obtain ⟨f0, f1, f2, f3, f4, f5⟩ := hf it (by simp)
    obtain ⟨hs, hgd, hx, es', ep', hdt, hsz, ent⟩ := frzT_all I hd
    obtain ⟨rfl, rfl⟩ := dict_ep hod hdt
    obtain ⟨ok, ov, he⟩ := st
    rw [← hsz] at he
    exact DT.endI (I.ok.hd hc) he ⟨o, hgd, hx, hdt⟩ (by omega) fun h' eb => ⟨rfl, I.turned (t' := s.toks) (fun b ob hb e => eb b ob hb e) f0 f1 f3 f4 f5⟩
  self := fun A i s Q E st h => let ⟨_, _, e⟩ := st; PySem.W.kcp_self e h
def iItemsT (td : TE) : TI := fun σ H R => td σ H fun x H1 => ∃ d o kvs, x = .ref d ∧ H1 d = some (.frz o (.dT kvs)) ∧ R (ItiT d o kvs) H1
theorem pi_itemsT {X : Cx} {e : Expr} {td : TE} {apos cpos : Pos} {elts : List Expr} {kk : Nat} {tpos : Pos} (he : PE X e td) (hbase : attributeBase e "items" X.env (eval e X.env) = eval e X.env := by rfl) (hline : (apos.endLine == cpos.line) = true := by rfl) :
    PI X (.Tuple elts kk tpos) (.Call (.Attribute e "items" apos) [] [] cpos) (iItemsT td) := by
  refine ⟨fun pins s σ H R I h => ?_⟩
  refine wpAny_Call_method (T := "dict") (id := "dict.items") hbase rfl hline F.plainAttrs_dict F.slot_dict_items F.type_dict_items (thn (he.run pins s σ H _ I h) fun u s1 ⟨x, H1, I1, rx, d, o, kvs, ex, hd, q⟩ => ?_)
  subst ex
  obtain rfl : u = Value.ref d := rx
  obtain ⟨hs, hgd, hx, es, ep, hdt, hsz, ent⟩ := frzT_all I1 hd
  have raw : DT.Raw s1.heap d es ep := ⟨o, hgd, hx, hdt⟩
  refine ⟨raw.typeIs, (isD_at I1 (.inr ⟨kvs, .inr ⟨o, hd⟩⟩)).2.1, ?_⟩
  have I2 : Inv X pins σ H1 { s1 with heap := s1.heap.push { cls := .type "dict_items", data := .fields #[.ref d] } } := I1.kept (t' := s1.toks) fun b ob q => Heap.get?_push_of_some _ q
  have fin : wpAny (model X.prog X.w) X.A (pyIter (.ref s1.heap.objs.size)) (PIE X pins σ (.Tuple elts kk tpos) R) X.xe { s1 with heap := s1.heap.push { cls := .type "dict_items", data := .fields #[.ref d] } } := by
    refine DT.iterI (d := d) (es := es) (ep := ep) ⟨_, Heap.get?_push_size _ rfl, rfl, rfl⟩ (raw.push _) (pi_one (tk := s1.toks) I2 _ (turn_itemsT _ hdt) ⟨.none, .none, ?_⟩ q)
    rw [hsz]
    exact Heap.get?_push_size _ rfl
  show wpAny _ _ (callWith cpos (.builtin "dict.items") [.ref d] [] []) _ X.xe s1
  exact method_meetsIn F.slot_dict_items F.entry_dict_items rfl (PySem.evalArgs_none ⟨rfl, raw.typeIs, F.args_dict_items_1 _, _, DT.meetsItems (es := es) (ep := ep) hs, raw, fin⟩)
end Nw
namespace Nw
open PySem PySem.Spec PyProof.Rows L2 Nd
theorem ty_lst {K : PySem.W.Frag} {H : Hp} {a : Addr} {xs : List V} (h : SqL K H a xs) : TyX K H (.ref a) (.type "list") := by
  rcases h with (h | ⟨o, h⟩) | ⟨o, its, n, h1, h2, _⟩
  · exact .base (.lst h)
  · exact .base (.frz h)
  · exact .kList h1 h2
theorem kit_ll {K : PySem.W.Frag} : PySem.W.kitAny K (.type "list") [.type "list", .type "tuple"] = some true :=
  kitAny_cons (b := true) (kit_ty (by decide +kernel)) (fun h => by cases h) (fun _ => rfl)
theorem nodup_map {α β : Type} {f : α → β} {l : List α} (inj : ∀ a b, f a = f b → a = b) (h : l.Nodup) : (l.map f).Nodup := by
  unfold List.Nodup at h ⊢
  rw [List.pairwise_map]
  exact h.imp fun ne e => ne (inj _ _ e)
abbrev MW : Int := 1000000
def rowKey (r : PRow) : Int × Nat := (r.1, r.2.1)
/-- rows that a look takes -/
structure RowsOk (rows : List PRow) (col : Int) : Prop where
  ne : rows ≠ []
  len : rows.length ≤ 40
  nd : (rows.map rowKey).Nodup
  bd : ∀ r ∈ rows, (-FAR ≤ r.1 ∧ r.1 ≤ FAR) ∧ r.2.1 ≤ 60 ∧ (-MW ≤ r.2.2 ∧ r.2.2 ≤ MW) ∧ r.2.2 ≠ 0
  col : ∀ r ∈ rows, (r.1 + (r.2.1 : Nat)) % 2 = col
theorem RowsOk.perm {a b : List PRow} {c : Int} (h : RowsOk a c) (p : b.Perm a) : RowsOk b c where
  ne := fun e => h.ne (by rw [e] at p; exact p.symm.eq_nil)
  len := by rw [p.length_eq]; exact h.len
  nd := ((p.map rowKey).nodup_iff).mpr h.nd
  bd := fun r hr => h.bd r (p.mem_iff.mp hr)
  col := fun r hr => h.col r (p.mem_iff.mp hr)
section
variable {P : Program} {w : World} {K : PySem.W.Frag} {mg : Str → Option Value} {base : Heap}
abbrev N_is_weight : List Str := ["value"]
theorem sc_is_weight : FnScope N_is_weight ["value"] (defScope s_is_weight) := ⟨rfl, rfl, rfl, by decide +kernel, rfl, by decide +kernel, by decide +kernel⟩
def sp_isWeight (K : PySem.W.Frag) : Sp := fun vs H Q _ => ∃ n : Int, vs = [.int n] ∧ (-MW ≤ n ∧ n ≤ MW) ∧ n ≠ 0 ∧ Q (.bl true) H
theorem O_is_weight (T : Tx K mg) : Ok P w K mg base 3 (He.ga K "is_weight") ["value"] (sp_isWeight K) := by
  have O_is_within := O_is_within (P := P) (w := w) (base := base) T
  refine Ok.mk T.f_is_weight sc_is_weight (fun vs H Q E h => ?_) (fun _ _ _ _ _ _ us hl => match us, hl with | [_], _ => rfl) (fun cdv A outer s H vs Q E hr h => ?_)
  · obtain ⟨n, rfl, _⟩ := h; rfl
  · obtain ⟨n, rfl, hb, h0, k⟩ := h
    refine ⟨_, (pss_one (ps_ret (pe_and (pe_fn O_is_within (hr.mono (by decide)) T.g_is_within (pa_cons (pv 0) (pa_cons (pe_un un_neg (pe_glob (v := .int 1000000) (by rfl) T.i_MOST_WEIGHT.choose_spec ⟨_, rfl⟩)) (pa_cons (pe_glob (v := .int 1000000) (by rfl) T.i_MOST_WEIGHT.choose_spec ⟨_, rfl⟩) pa_nil)))) (pe_one (pe_cmpR op_ne (pv 0) pe_int (nomark _)))))), ?_⟩
    refine ⟨_, rfl, _, rfl, n, some (-1000000), some 1000000, rfl, (fun _ e => by cases e; exact hb.1), (fun _ e => by cases e; exact hb.2), _, rfl, iteT ⟨_, rfl, rfl, ?_⟩⟩
    rw [decide_eq_false (fun e => h0 (V.int.inj e))]
    exact k
abbrev N_is_row : List Str := ["value"]
theorem sc_is_row : FnScope N_is_row ["value"] (defScope s_is_row) := ⟨rfl, rfl, rfl, by decide +kernel, rfl, by decide +kernel, by decide +kernel⟩
def sp_isRow (K : PySem.W.Frag) : Sp := fun vs H Q _ => ∃ (v : V) (r : PRow), vs = [v] ∧ Tp K H v (dR r) ∧ ((-FAR ≤ r.1 ∧ r.1 ≤ FAR) ∧ r.2.1 ≤ 60 ∧ (-MW ≤ r.2.2 ∧ r.2.2 ≤ MW) ∧ r.2.2 ≠ 0) ∧ ∀ H', Same H H' → Q (.bl true) H'
theorem O_is_row (T : Tx K mg) : Ok P w K mg base 4 (He.ga K "is_row") ["value"] (sp_isRow K) := by
  have O_is_within := O_is_within (P := P) (w := w) (base := base) T
  have O_are_integers := O_are_integers (P := P) (w := w) (base := base) T
  have O_is_weight := O_is_weight (P := P) (w := w) (base := base) T
  refine Ok.mk T.f_is_row sc_is_row (fun vs H Q E h => ?_) (fun _ _ _ _ _ _ us hl => match us, hl with | [_], _ => rfl) (fun cdv A outer s H vs Q E hr h => ?_)
  · obtain ⟨v, r, rfl, _⟩ := h; rfl
  · obtain ⟨v, r, rfl, hv, ⟨b1, b2, b3, b4⟩, k⟩ := h
    obtain ⟨q, rfl, hq⟩ := tpI_inv hv
    refine ⟨_, (pss_cons (ps_if (PW.pt (pw_or (pt_not (pt_val (pe_fn O_are_integers (hr.mono (by decide)) T.g_are_integers (pa_cons (pv 0) (pa_cons pe_int pa_nil))))) (pw_or1 (pt_not (pt_val (pe_fn O_is_within (hr.mono (by decide)) T.g_is_within (pa_cons (pe_ix ix_tup (pv 0) pe_int (fun _ _ => rfl)) (pa_cons (pe_un un_neg (pe_glob (v := .int 1000000) (by rfl) T.i_FARTHEST.choose_spec ⟨_, rfl⟩)) (pa_cons (pe_glob (v := .int 1000000) (by rfl) T.i_FARTHEST.choose_spec ⟨_, rfl⟩) pa_nil)))))))))
      (pss_one (ps_ret pe_bl))
      pss_nil)
      (pss_one (ps_ret (pe_and (pe_fn O_is_within (hr.mono (by decide)) T.g_is_within (pa_cons (pe_ix ix_tup (pv 0) pe_int (fun _ _ => rfl)) (pa_cons pe_int (pa_cons (pe_glob (v := .int 60) (by rfl) T.i_MOST_TICK.choose_spec ⟨_, rfl⟩) pa_nil)))) (pe_one (pe_fn O_is_weight (hr.mono (by decide)) T.g_is_weight (pa_cons (pe_ix ix_tup (pv 0) pe_int (fun _ _ => rfl)) pa_nil))))))), ?_⟩
    refine ⟨_, rfl, _, [r.1, (r.2.1 : Nat), r.2.2], 3, rfl, hv, rfl, (by show 3 ≤ 1000; decide), fun H1 s1 => ⟨_, rfl, ?_⟩⟩
    have hq1 := same_t s1 hq
    refine iteF ⟨_, rfl, _, _, _, _, rfl, rfl, hq1, rfl, _, rfl, r.1, some (-1000000), some 1000000, rfl, (fun _ e => by cases e; exact b1.1), (fun _ e => by cases e; exact b1.2), _, rfl, ?_⟩
    refine iteF ⟨_, rfl, _, _, _, _, rfl, rfl, hq1, rfl, (r.2.1 : Nat), some 0, some 60, rfl, (fun _ e => by cases e; omega), (fun _ e => by cases e; omega), _, rfl, ?_⟩
    exact iteT ⟨_, rfl, _, _, _, _, rfl, rfl, hq1, rfl, r.2.2, rfl, b3, b4, k _ s1⟩
abbrev N_are_rows : List Str := ["value", "each", "spot", "tick", "_"]
theorem sc_are_rows : FnScope N_are_rows ["value"] (defScope s_are_rows) := ⟨rfl, rfl, rfl, by decide +kernel, rfl, by decide +kernel, by decide +kernel⟩
def sp_areRows (K : PySem.W.Frag) : Sp := fun vs H Q _ => ∃ (v : V) (rows : List PRow) (c : Int), vs = [v] ∧ Lp K H v (rows.map dR) ∧ RowsOk rows c ∧ ∀ H', Same H H' → Q (.bl true) H'
theorem O_are_rows (T : Tx K mg) : Ok P w K mg base 5 (He.ga K "are_rows") ["value"] (sp_areRows K) := by
  have O_is_row := O_is_row (P := P) (w := w) (base := base) T
  refine Ok.mk T.f_are_rows sc_are_rows (fun vs H Q E h => ?_) (fun _ _ _ _ _ _ us hl => match us, hl with | [_], _ => rfl) (fun cdv A outer s H vs Q E hr h => ?_)
  · obtain ⟨v, rows, c, rfl, _⟩ := h; rfl
  · obtain ⟨v, rows, c, rfl, ⟨a, xs, rfl, ha, ht⟩, ok, k⟩ := h
    have hu := Nat.lt_of_le_of_lt (Nat.add_le_add_left (by decide : 1 ≤ 64) _) hr.units
    have hl := ok.len
    have hxl : xs.length = rows.length := by rw [ht.length, List.length_map]
    have hpos : 0 < rows.length := List.length_pos_iff.mpr ok.ne
    refine ⟨_, (pss_cons (ps_if (PW.pt (pw_or (pt_not (pt_val (pe_callB call_isiT (by rfl) T.z_isinstance (by decide +kernel) (pa_cons (pv 0) (pa_cons (pe_tup (pa_cons (pe_bltn (v := .ty "list") (by rfl) T.z_list (by decide +kernel) rfl) (pa_cons (pe_bltn (v := .ty "tuple") (by rfl) T.z_tuple (by decide +kernel) rfl) pa_nil))) pa_nil))))) (pw_or1 (pt_not (pt_chain op_le op_le pe_int (pe_callB call_len_seq (by rfl) T.z_len (by decide +kernel) (pa_cons (pv 0) pa_nil)) (pe_glob (v := .int 40) (by rfl) T.i_MOST_ROWS.choose_spec ⟨_, rfl⟩))))))
      (pss_one (ps_ret pe_bl))
      pss_nil)
      (pss_cons (ps_if (pt_not (pt_val (pe_callB (cr_all rfl) (by rfl) T.z_all (by decide +kernel) (pa_cons (pe_lc (own := [("each", 1)]) rfl sc_are_rows.nd (pi_list (pv 0)) (blkOk_by (N := N_are_rows) (sc := defScope s_are_rows) (by decide +kernel)) (fun _ _ _ _ _ => (pg_name (i := 1) sc_are_rows.nd rfl (.inl rfl) (by first | exact .inl rfl | exact .inr rfl))) (fun _ _ _ _ _ => pts_nil) (fun _ _ _ _ _ => (pe_fn O_is_row (hr.mono (by decide)) T.g_is_row (pa_cons (pv 1) pa_nil)))) pa_nil))))
      (pss_one (ps_ret pe_bl))
      pss_nil)
      (pss_one (ps_ret (pe_cmpR op_eq (pe_callB call_len_dT (by rfl) T.z_len (by decide +kernel) (pa_cons (pe_dcT hu (own := [("spot", 2), ("tick", 3), ("_", 4)]) rfl sc_are_rows.nd (pi_list (pv 0)) (blkOk_by (N := N_are_rows) (sc := defScope s_are_rows) (by decide +kernel)) (fun _ _ _ _ _ => (pg_tupK (K := K) (n := 3) rfl rfl (pgs_cons (pg_name (i := 2) sc_are_rows.nd rfl (.inl rfl) (by first | exact .inl rfl | exact .inr rfl)) (pgs_cons (pg_name (i := 3) sc_are_rows.nd rfl (.inl rfl) (by first | exact .inl rfl | exact .inr rfl)) (pgs_cons (pg_name (i := 4) sc_are_rows.nd rfl (.inl rfl) (by first | exact .inl rfl | exact .inr rfl)) pgs_nil))))) (fun _ _ _ _ _ => pts_nil) (fun _ _ _ _ _ => (pe_tup (pa_cons (pv 2) (pa_cons (pv 3) pa_nil)))) (fun _ _ _ _ _ => pe_bl)) pa_nil)) (pe_callB call_len_seq (by rfl) T.z_len (by decide +kernel) (pa_cons (pv 0) pa_nil)) (nomark _)))))), ?_⟩
    refine ⟨_, rfl, (by show 2 ≤ sizeLine; decide), fun p1 hp1 => ?_⟩
    have s1 : Same H (upd H p1 (.tup [.ty "list", .ty "tuple"])) := same_new hp1
    have ha1 := s1.seq ha
    refine ⟨_, _, _, _, _, true, rfl, upd_same, cls_lt, ty_lst ha1, kit_ll, _, rfl, ?_⟩
    refine iteF ⟨_, rfl, a, _, rfl, .inl ha1, _, _, rfl, rfl, _, rfl, ?_⟩
    refine dT (by omega) ⟨_, _, rfl, rfl, _, rfl, ?_⟩
    rw [decide_eq_true (show (xs.length : Int) ≤ 40 by omega)]
    refine iteF ⟨_, rfl, a, rfl, ⟨_, ha1⟩, fun D hD => lc_src (Src.lp (K := K) (f := dR) (l := rows) (xs := xs)) (K := K) hD (fun _ y _ => y = .bl true) (fun _ => true) (fun H' s2 => ⟨s2.seq ha1, ht.same (s1.trans s2)⟩) (fun _ _ _ _ _ h => h) (by omega) (fun i d x H1 Q1 Q0 s2 hi hx k1 _ => ?_) (fun H2 ys s2 hD2 hp => ?_)⟩
    · exact ⟨rfl, yes_ ⟨_, rfl, _, d, rfl, hx, ok.bd d (List.mem_of_getElem? hi), fun H4 s4 => k1 rfl _ _ s4 rfl⟩⟩
    · obtain ⟨bs, e, hb⟩ := all_true (K := K) (H := H2) hp
      subst e
      refine ⟨_, _, rfl, SqL.of hD2, _, rfl, ?_⟩
      rw [hb]
      have ha2 := s2.seq ha1
      refine iteF ⟨_, rfl, a, rfl, ⟨_, ha2⟩, fun D hD => dcT_src (Src.lp (K := K) (f := dR) (l := rows) (xs := xs)) hD (fun r => [Sum.inl r.1, Sum.inl (r.2.1 : Nat)]) (fun _ => .bl true) ?_ (fun H' s3 => ⟨s3.seq ha2, ht.same ((s1.trans s2).trans s3)⟩) (by omega) (fun i d x H1 Q2 Q0 s3 hi hx k1 => ?_) (fun H3 s3 hD3 => ?_)⟩
      · have e : (rows.map fun r => ([Sum.inl r.1, Sum.inl ((r.2.1 : Nat) : Int)] : List Key)) = (rows.map rowKey).map fun q => [Sum.inl q.1, Sum.inl ((q.2 : Nat) : Int)] := by
          rw [List.map_map]; rfl
        rw [e]
        refine nodup_map ?_ ok.nd
        rintro ⟨x1, x2⟩ ⟨y1, y2⟩ h
        simp only [List.cons.injEq, Sum.inl.injEq, and_true] at h
        exact Prod.ext h.1 (by omega)
      · obtain ⟨q, rfl, hq⟩ := tpI_inv hx
        refine ⟨q, _, rfl, hq, rfl, _, _, rfl, _, _, rfl, _, _, rfl, rfl, rfl, yesT ⟨_, rfl, _, rfl, (by show 2 ≤ sizeLine; decide), fun p hp => ?_⟩⟩
        exact k1 p _ (same_new hp) upd_same
      · refine ⟨D, _, rfl, hD3, _, rfl, a, _, rfl, .inl (s3.seq ha2), rfl, qT ?_ (k _ ((s1.trans s2).trans s3))⟩
        rw [List.length_map, hxl]
abbrev N_colour_at : List Str := ["row"]
theorem sc_colour_at : FnScope N_colour_at ["row"] (defScope s_colour_at) := ⟨rfl, rfl, rfl, by decide +kernel, rfl, by decide +kernel, by decide +kernel⟩
def sp_colAt (K : PySem.W.Frag) : Sp := fun vs H Q _ => ∃ (v : V) (r : PRow), vs = [v] ∧ Tp K H v (dR r) ∧ Q (.int ((r.1 + (r.2.1 : Nat)) % 2)) H
theorem O_colour_at (T : Tx K mg) : Ok P w K mg base 1 (He.ga K "colour_at") ["row"] (sp_colAt K) := by
  refine Ok.mk T.f_colour_at sc_colour_at (fun vs H Q E h => ?_) (fun _ _ _ _ _ _ us hl => match us, hl with | [_], _ => rfl) (fun cdv A outer s H vs Q E hr h => ?_)
  · obtain ⟨v, r, rfl, _⟩ := h; rfl
  · obtain ⟨v, r, rfl, hv, k⟩ := h
    obtain ⟨q, rfl, hq⟩ := tpI_inv hv
    refine ⟨_, (pss_one (ps_ret (pe_op op_mod (pe_op op_add (pe_ix ix_tup (pv 0) pe_int (fun _ _ => rfl)) (pe_ix ix_tup (pv 0) pe_int (fun _ _ => rfl))) pe_int))), ?_⟩
    exact ⟨_, rfl, _, _, _, _, rfl, rfl, hq, rfl, _, rfl, _, _, _, _, rfl, rfl, hq, rfl, _, _, rfl, rfl, _, _, rfl, rfl, (by show (0 : Int) < 2; decide), k⟩
end
end Nw
namespace Nw
open PySem PySem.Spec PyProof.Rows L2 Nd
abbrev lookF (t : V) (last col : Int) : List (Str × V) := [("rows", t), ("last", .int last), ("colour", .int col)]
/-- a look: its rows by tick, its last tick, its colour -/
def LookIs (K : PySem.W.Frag) (H : Hp) (v : V) (rows : List PRow) (last : Nat) (col : Int) : Prop :=
  (∃ a dx t, v = .ref a ∧ H a = some (.ins (He.ga K "Look") dx (lookF t last col)) ∧ Tp K H t (.tuple (rows.map dR))) ∧ RowsOk rows col ∧ (rows.Pairwise fun p q => p.2.1 ≤ q.2.1) ∧ (∀ r ∈ rows, r.2.1 ≤ last) ∧ ∃ r ∈ rows, r.2.1 = last
theorem LookIs.same {K : PySem.W.Frag} {H H' : Hp} {v : V} {rows : List PRow} {last : Nat} {col : Int} (h : LookIs K H v rows last col) (s : Same H H') : LookIs K H' v rows last col := by
  obtain ⟨⟨a, dx, t, e, h1, h2⟩, r⟩ := h
  exact ⟨⟨a, dx, t, e, s _ _ h1, h2.same s⟩, r⟩
section
variable {P : Program} {w : World} {K : PySem.W.Frag} {mg : Str → Option Value} {base : Heap}
abbrev N_Look_init : List Str := ["self", "rows", "found", "spot", "tick", "weight", "row"]
theorem sc_Look_init : FnScope N_Look_init ["self", "rows"] (defScope s_Look_init) := ⟨rfl, rfl, rfl, by decide +kernel, rfl, by decide +kernel, by decide +kernel⟩
def sp_LookInit (K : PySem.W.Frag) : Sp := fun vs H Q _ => ∃ (x dx : Addr) (v : V) (rows : List PRow) (c : Int), vs = [.ref x, v] ∧ H x = some (.ins (He.ga K "Look") dx []) ∧ Lp K H v (rows.map dR) ∧ RowsOk rows c ∧
  ∀ H' rows' last, SameX x H H' → rows'.Perm rows → LookIs K H' (.ref x) rows' last c → Q .non H'
theorem O_Look_init (T : Tx K mg) : Ok P w K mg base 6 (He.ma K (He.ga K "Look") "__init__") ["self", "rows"] (sp_LookInit K) := by
  have O_are_rows := O_are_rows (P := P) (w := w) (base := base) T
  have O_colour_at := O_colour_at (P := P) (w := w) (base := base) T
  refine Ok.mk T.f_Look_init sc_Look_init (fun vs H Q E h => ?_) (fun _ _ _ _ _ _ us hl => match us, hl with | [_, _], _ => rfl) (fun cdv A outer s H vs Q E hr h => ?_)
  · obtain ⟨x, dx, v, rows, c, rfl, _⟩ := h; rfl
  · obtain ⟨x, dx, v, rows, c, rfl, hx, hv, ok, k⟩ := h
    have hl := ok.len
    refine ⟨_, (pss_cons (ps_if (pt_not (pt_val (pe_fn O_are_rows (hr.mono (by decide)) T.g_are_rows (pa_cons (pv 1) pa_nil))))
      (pss_one ps_never)
      pss_nil)
      (pss_cons (ps_set (i := 2) sc_Look_init.nd rfl (.inr rfl) (pe_callBK (cr_sortedPl T (hr.mono (by decide))) (by rfl) T.z_sorted (by decide +kernel) (pa_cons (pe_lc (own := [("spot", 3), ("tick", 4), ("weight", 5)]) rfl sc_Look_init.nd (pi_list (pv 1)) (blkOk_by (N := N_Look_init) (sc := defScope s_Look_init) (by decide +kernel)) (fun _ _ _ _ _ => (pg_tupK (K := K) (n := 3) rfl rfl (pgs_cons (pg_name (i := 3) sc_Look_init.nd rfl (.inl rfl) (by first | exact .inl rfl | exact .inr rfl)) (pgs_cons (pg_name (i := 4) sc_Look_init.nd rfl (.inl rfl) (by first | exact .inl rfl | exact .inr rfl)) (pgs_cons (pg_name (i := 5) sc_Look_init.nd rfl (.inl rfl) (by first | exact .inl rfl | exact .inr rfl)) pgs_nil))))) (fun _ _ _ _ _ => pts_nil) (fun _ _ _ _ _ => (pe_tup (pa_cons (pv 3) (pa_cons (pv 4) (pa_cons (pv 5) pa_nil)))))) pa_nil) (pk_cons (pe_glob (v := .ref (He.ga K "place_of")) (by rfl) T.g_place_of rfl) pk_nil)))
      (pss_cons (ps_if (pt_not (pt_val (pe_callB (cr_all rfl) (by rfl) T.z_all (by decide +kernel) (pa_cons (pe_lc (own := [("row", 6)]) rfl sc_Look_init.nd (pi_list (pv 2)) (blkOk_by (N := N_Look_init) (sc := defScope s_Look_init) (by decide +kernel)) (fun _ _ _ _ _ => (pg_name (i := 6) sc_Look_init.nd rfl (.inl rfl) (by first | exact .inl rfl | exact .inr rfl))) (fun _ _ _ _ _ => pts_nil) (fun _ _ _ _ _ => (pe_cmpR op_eq (pe_fn O_colour_at (hr.mono (by decide)) T.g_colour_at (pa_cons (pv 6) pa_nil)) (pe_fn O_colour_at (hr.mono (by decide)) T.g_colour_at (pa_cons (pe_ix (ix_listK (K := K) rfl) (pv 2) pe_int (fun _ _ => rfl)) pa_nil)) (nomark _)))) pa_nil))))
      (pss_one ps_never)
      pss_nil)
      (pss_cons (ps_fld (pv 0) (pe_callTy call_tuple_of (by rfl) T.z_tuple (by decide +kernel) (pa_cons (pv 2) pa_nil)) rfl)
      (pss_cons (ps_fld (pv 0) (pe_ix ix_tup (pe_ix ix_list (pv 2) (pe_un un_neg pe_int) (fun _ _ => rfl)) pe_int (fun _ _ => rfl)) rfl)
      (pss_one (ps_fld (pv 0) (pe_fn O_colour_at (hr.mono (by decide)) T.g_colour_at (pa_cons (pe_ix ix_list (pv 2) pe_int (fun _ _ => rfl)) pa_nil)) rfl))))))), ?_⟩
    refine ⟨_, rfl, v, rows, c, rfl, hv, ok, fun H1 s1 => ⟨_, rfl, iteF ?_⟩⟩
    obtain ⟨a, xs, rfl, ha, ht⟩ := hv
    have hxl : xs.length = rows.length := by rw [ht.length, List.length_map]
    have ha1 := s1.seq ha
    refine ⟨_, rfl, a, rfl, ⟨_, ha1⟩, fun D hD => lc_src (Src.lp (K := K) (f := dR) (l := rows) (xs := xs)) (K := K) hD (isR K) (fun _ => true) (fun H' s2 => ⟨s2.seq ha1, ht.same (s1.trans s2)⟩) isR_stay (by omega) (fun i d y H2 Q1 Q0 s2 hi hy k1 _ => ?_) (fun H2 ys s2 hD2 hp => ?_)⟩
    · obtain ⟨q, rfl, hq⟩ := tpI_inv hy
      refine ⟨q, _, rfl, hq, rfl, _, _, rfl, _, _, rfl, _, _, rfl, rfl, rfl, yes_ ⟨_, rfl, _, rfl, _, rfl, (by show 3 ≤ sizeLine; decide), fun p hp => ?_⟩⟩
      exact k1 rfl _ _ (same_new hp) ⟨p, rfl, upd_same⟩
    · rw [List.filter_eq_self.mpr (by simp)] at hp
      refine ⟨D, ys, rows, rfl, rfl, SqL.of hD2, hp, by omega, fun l zs hl0 pz => ?_⟩
      have pm : (rows.mergeSort placeLe).Perm rows := List.mergeSort_perm _ _
      have pw := place_sorted rows
      generalize rows.mergeSort placeLe = rows' at pz pm pw
      have ok' := ok.perm pm
      have s3 : Same H2 (upd H2 l (.lst zs)) := same_new hl0
      have tz : TpAll K (upd H2 l (.lst zs)) zs (rows'.map dR) := (tpAll_R pz).same s3
      have hl3 : SqL K (upd H2 l (.lst zs)) l zs := SqL.of upd_same
      have sx := (s1.trans s2).trans s3
      generalize upd H2 l (.lst zs) = H3 at tz hl3 sx s3
      have zl : zs.length = rows'.length := by rw [tz.length, List.length_map]
      have hl' := ok'.len
      have hne : zs ≠ [] := by
        intro e
        rw [e] at zl
        exact ok'.ne (List.eq_nil_of_length_eq_zero zl.symm)
      obtain ⟨z0, zr, ez⟩ := List.exists_cons_of_ne_nil hne
      obtain ⟨r0, hr0, tz0⟩ := tz.mapGet (i := 0) (v := z0) (by rw [ez]; rfl)
      have c0 := ok'.col r0 (List.mem_of_getElem? hr0)
      have at0 : atI zs 0 = some z0 := by rw [ez]; exact atI_0
      refine ⟨_, rfl, l, rfl, ⟨_, hl3⟩, fun D2 hD3 => lc_src (Src.lp (K := K) (f := dR) (l := rows') (xs := zs)) (K := K) hD3 (fun _ y _ => y = .bl true) (fun _ => true) (fun H' s4 => ⟨s4.seq hl3, tz.same s4⟩) (fun _ _ _ _ _ h => h) (by omega) (fun i d y H4 Q1 Q0 s4 hi hy k1 _ => ?_) (fun H4 bs s4 hD4 hpb => ?_)⟩
      · refine ⟨rfl, yes_ ⟨_, rfl, _, d, rfl, hy, _, rfl, _, _, _, _, rfl, rfl, s4.seq hl3, at0, _, r0, rfl, tz0.same s4, rfl, qT ?_ (k1 rfl _ _ (Same.refl _) rfl)⟩⟩
        rw [ok'.col d (List.mem_of_getElem? hi), c0]
      · obtain ⟨bs', e, hb⟩ := all_true (K := K) (H := H4) hpb
        subst e
        refine ⟨_, _, rfl, SqL.of hD4, _, rfl, ?_⟩
        rw [hb]
        have hl4 := s4.seq hl3
        have sx4 := sx.trans s4
        refine iteF ⟨_, rfl, l, zs, rfl, .inl ⟨hl4, fun q hq => ⟨_, rfl, x, _, dx, [], rfl, ?_, T.c_Look, T.a_Look_rows, (by show 0 < 1000; decide), ?_⟩⟩⟩
        · rw [upd_ne (ne_of_none (sx4 _ _ hx) hq)]
          exact sx4 _ _ hx
        have s5 : Same H4 (upd H4 q (.tup zs)) := same_new hq
        have hx5 := (sx4.trans s5) _ _ hx
        have tq : Tp K (upd H4 q (.tup zs)) (.ref q) (.tuple (rows'.map dR)) := .tup (SqT.of upd_same) (tz.same (s4.trans s5))
        have tz5 := tz.same (s4.trans s5)
        have hl5 := s5.seq hl4
        have sH5 := sx4.trans s5
        generalize upd H4 q (.tup zs) = H5 at s5 hx5 tq tz5 hl5 sH5 ⊢
        -- the object x is written; lists and tuples stay
        have lstay : ∀ {H H' : Hp} {fs : List (Str × V)}, SameX x H H' → H x = some (.ins (He.ga K "Look") dx fs) → SqL K H l zs → SqL K H' l zs := by
          intro H H' fs sx hx h
          rcases h with (h | ⟨o, h⟩) | h
          · exact .inl (.inl (sx _ _ (fun e => by rw [e, hx] at h; cases h) h))
          · exact .inl (.inr ⟨o, sx _ _ (fun e => by rw [e, hx] at h; cases h) h⟩)
          · exact .inr h
        have x6 : SameX x H5 (upd H5 x (.ins (He.ga K "Look") dx [("rows", V.ref q)])) := SameX.upd
        have hl6 := lstay x6 hx5 hl5
        have tz6 := TpAll.stay (x6.stay hx5) tz5
        obtain ⟨zp, zl1, ez1⟩ : ∃ zp z, zs = zp ++ [z] := ⟨zs.dropLast, zs.getLast hne, (List.dropLast_concat_getLast hne).symm⟩
        have lz1 : zs[zp.length]? = some zl1 := by rw [ez1]; simp
        obtain ⟨rl, hrl, tzl⟩ := tz6.mapGet lz1
        obtain ⟨ql, rfl, hql⟩ := tpI_inv tzl
        have atl : atI zs (-1) = some (V.ref ql) := by rw [ez1]; exact atI_last _ _
        refine ⟨_, rfl, _, rfl, _, _, _, _, rfl, rfl, hl6, atl, _, _, _, _, rfl, rfl, hql, rfl, _, rfl, x, _, dx, _, rfl, upd_same, T.c_Look, T.a_Look_last, (by show 1 < 1000; decide), ?_⟩
        rw [upd_upd]
        have x7 : SameX x H5 (upd H5 x (.ins (He.ga K "Look") dx [("rows", V.ref q), ("last", .int (rl.2.1 : Nat))])) := SameX.upd
        have hl7 := lstay x7 hx5 hl5
        have tz7 := TpAll.stay (x7.stay hx5) tz5
        obtain ⟨r0', hr0', tz0'⟩ := tz7.mapGet (i := 0) (v := z0) (by rw [ez]; rfl)
        refine ⟨_, rfl, _, _, _, _, rfl, rfl, hl7, at0, _, r0', rfl, tz0', _, rfl, x, _, dx, _, rfl, upd_same, T.c_Look, T.a_Look_colour, (by show 2 < 1000; decide), ?_⟩
        rw [upd_upd]
        have er : r0' = r0 := Option.some.inj (hr0'.symm.trans hr0)
        rw [er, c0]
        have x8 : SameX x H5 (upd H5 x (.ins (He.ga K "Look") dx (lookF (.ref q) (rl.2.1 : Nat) c))) := SameX.upd
        have hzl : zp.length + 1 = zs.length := by rw [ez1]; simp
        refine k _ rows' rl.2.1 ((SameX.of sH5).trans x8) pm ⟨⟨x, dx, .ref q, rfl, upd_same, Tp.stay (x8.stay hx5) tq⟩, ok', pw, fun r hr => ?_, rl, List.mem_of_getElem? hrl, rfl⟩
        obtain ⟨j, hj, ej⟩ := List.mem_iff_getElem.mp hr
        have hi1 : zp.length < rows'.length := by omega
        have erl : rows'[zp.length] = rl := by
          rw [List.getElem?_eq_getElem hi1] at hrl
          exact Option.some.inj hrl
        by_cases e : j = zp.length
        · subst e
          rw [← ej, erl]
          exact Nat.le_refl _
        · have := List.pairwise_iff_getElem.mp pw j zp.length hj hi1 (by omega)
          rw [ej, erl] at this
          exact this
end
end Nw
namespace Nw
open PySem PySem.Spec PyProof.Rows L2 Nd
theorem all_false {α : Type} : ∀ {l : List α} {ys : List V}, Paired (fun _ y => y = V.bl false) l ys → ∃ bs : List Bool, ys = bs.map V.bl ∧ bs.any id = false
  | _, _, .nil => ⟨[], rfl, rfl⟩
  | _, _, .cons h t => by
    obtain ⟨bs, e, g⟩ := all_false t
    exact ⟨false :: bs, by rw [List.map_cons, h, e], by simpa using g⟩
def scaleRow (b : Int) (r : PRow) : PRow := (r.1, r.2.1, r.2.2 * b)
def moveRow (m : Int) (r : PRow) : PRow := (r.1 + m, r.2.1, r.2.2)
section
variable {P : Program} {w : World} {K : PySem.W.Frag} {mg : Str → Option Value} {base : Heap}
abbrev N_need_look : List Str := ["value", "part"]
theorem sc_need_look : FnScope N_need_look ["value", "part"] (defScope s_need_look) := ⟨rfl, rfl, rfl, by decide +kernel, rfl, by decide +kernel, by decide +kernel⟩
def sp_needLook (K : PySem.W.Frag) : Sp := fun vs H Q _ => ∃ (v p : V) (rows : List PRow) (last : Nat) (c : Int), vs = [v, p] ∧ LookIs K H v rows last c ∧ Q .non H
theorem O_need_look0 (T : Tx K mg) : ∃ fd, PySem.W.keepIn K (.ref (He.ga K "need_look")) = true ∧ FnOk P w K mg base CX0 1 (He.ga K "need_look") fd ["value", "part"] (sp_needLook K) ∧ (∃ ds, Binds K fd ["value", "part"] ds ∧ Vals [V.str "look"] ds) ∧ Binds K fd ["value", "part"] [] := by
  obtain ⟨fd, F⟩ := T.f_need_look
  obtain ⟨ds, hds, hb⟩ := F.binds1 (ps := ["value", "part"]) 1 0 (by simp) rfl (fun T kV doc pm an cdv ct us its hu hi => match us, its, hu, hi with | [_], [_], _, _ => ⟨_, rfl, rfl⟩)
  refine ⟨fd, F.kp, F.ok sc_need_look (fun vs H Q E h => ?_) (fun cdv A outer s H vs Q E hr h => ?_), ⟨ds, hb, hds⟩, ?_⟩
  · obtain ⟨v, p, rows, last, c, rfl, _⟩ := h; rfl
  · obtain ⟨v, p, rows, last, c, rfl, ⟨⟨a, dx, t, rfl, h1, h2⟩, _⟩, k⟩ := h
    refine ⟨_, (pss_one (ps_if (pt_not (pt_val (pe_callB call_isi (by rfl) T.z_isinstance (by decide +kernel) (pa_cons (pv 0) (pa_cons (pe_glob (v := .ref (He.ga K "Look")) (by rfl) T.g_Look rfl) pa_nil)))))
      (pss_one ps_never)
      pss_nil)), ?_⟩
    obtain ⟨y1, y2⟩ := T.y_Look
    exact ⟨_, rfl, _, _, _, _, true, rfl, .own _, .base (y2 h1), y1, _, rfl, iteF k⟩
  · obtain ⟨ds2, hds2, hb2⟩ := F.binds1 (ps := ["value", "part"]) 2 1 (by simp) rfl (fun T kV doc pm an cdv ct us its hu hi => match us, its, hu, hi with | [_, _], [_], _, _ => ⟨_, rfl, rfl⟩)
    cases hds2
    exact hb2
theorem O_need_lookD (T : Tx K mg) : Okd P w K mg base 1 (He.ga K "need_look") ["value", "part"] [.str "look"] (sp_needLook K) := by
  obtain ⟨fd, kp, F, ⟨ds, hb, hd⟩, _⟩ := O_need_look0 (P := P) (w := w) (base := base) T
  exact ⟨kp, fd, ds, F, hb, hd⟩
theorem O_need_look (T : Tx K mg) : Ok P w K mg base 1 (He.ga K "need_look") ["value", "part"] (sp_needLook K) := by
  obtain ⟨fd, kp, F, _, b⟩ := O_need_look0 (P := P) (w := w) (base := base) T
  exact ⟨kp, fd, F, b⟩
abbrev N_weighed : List Str := ["rows", "_", "weight"]
theorem sc_weighed : FnScope N_weighed ["rows"] (defScope s_weighed) := ⟨rfl, rfl, rfl, by decide +kernel, rfl, by decide +kernel, by decide +kernel⟩
def sp_weighed (K : PySem.W.Frag) : Sp := fun vs H Q _ => ∃ (v : V) (rows : List PRow) (c : Int), vs = [v] ∧ Lp K H v (rows.map dR) ∧ RowsOk rows c ∧ ∀ z H' rows' last, Same H H' → rows'.Perm rows → LookIs K H' z rows' last c → Q z H'
theorem make_look {H : Hp} {v : V} {rows : List PRow} {c : Int} {Q : VK} {x dx : Addr} (hv : Lp K H v (rows.map dR)) (ok : RowsOk rows c) (hx : H x = none) (hdx : H dx = none) (hne : dx ≠ x) (k : ∀ z H' rows' last, Same H H' → rows'.Perm rows → LookIs K H' z rows' last c → Q z H') :
    sp_LookInit K [.ref x, v] (upd (upd H dx (.own x)) x (.ins (He.ga K "Look") dx [])) (fun v H2 => v = .non ∧ Q (.ref x) H2) E0 := by
  have s1 : Same H (upd (upd H dx (.own x)) x (.ins (He.ga K "Look") dx [])) := (same_new (o := .own x) hdx).trans (same_new (by rw [upd_ne (Ne.symm hne)]; exact hx))
  exact ⟨x, dx, v, rows, c, rfl, upd_same, hv.same s1, ok, fun H' rows' last sx pm li => ⟨rfl, k _ _ _ _ (fun b o e => sx b o (ne_of_none e hx) (s1 _ _ e)) pm li⟩⟩
theorem O_weighed (T : Tx K mg) : Ok P w K mg base 8 (He.ga K "weighed") ["rows"] (sp_weighed K) := by
  have O_Look_init := O_Look_init (P := P) (w := w) (base := base) T
  refine Ok.mk T.f_weighed sc_weighed (fun vs H Q E h => ?_) (fun _ _ _ _ _ _ us hl => match us, hl with | [_], _ => rfl) (fun cdv A outer s H vs Q E hr h => ?_)
  · obtain ⟨v, rows, c, rfl, _⟩ := h; rfl
  · obtain ⟨v, rows, c, rfl, hv, ok, k⟩ := h
    have hl := ok.len
    have hF : FAR = 1000000 := rfl
    have hM : MW = 1000000 := rfl
    refine ⟨_, (pss_cons (ps_if (pt_val (pe_callB (cr_any rfl) (by rfl) T.z_any (by decide +kernel) (pa_cons (pe_lc (own := [("_", 1), ("_", 1), ("weight", 2)]) rfl sc_weighed.nd (pi_list (pv 0)) (blkOk_by (N := N_weighed) (sc := defScope s_weighed) (by decide +kernel)) (fun _ _ _ _ _ => (pg_tupK (K := K) (n := 3) rfl rfl (pgs_cons (pg_name (i := 1) sc_weighed.nd rfl (.inl rfl) (by first | exact .inl rfl | exact .inr rfl)) (pgs_cons (pg_name (i := 1) sc_weighed.nd rfl (.inl rfl) (by first | exact .inl rfl | exact .inr rfl)) (pgs_cons (pg_name (i := 2) sc_weighed.nd rfl (.inl rfl) (by first | exact .inl rfl | exact .inr rfl)) pgs_nil))))) (fun _ _ _ _ _ => pts_nil) (fun _ _ _ _ _ => (pe_cmpR op_gt (pe_callB call_abs (by rfl) T.z_abs (by decide +kernel) (pa_cons (pv 2) pa_nil)) (pe_glob (v := .int 1000000) (by rfl) T.i_MOST_WEIGHT.choose_spec ⟨_, rfl⟩) (nomark _)))) pa_nil)))
      (pss_one ps_never)
      pss_nil)
      (pss_one (ps_ret (pe_mk O_Look_init T.k_Look (hr.mono (by decide)) T.g_Look (pa_cons (pv 0) pa_nil))))), ?_⟩
    have hv0 := hv
    obtain ⟨a, xs, rfl, ha, ht⟩ := hv
    refine ⟨_, rfl, a, rfl, ⟨_, ha⟩, fun D hD => lc_src (Src.lp (K := K) (f := dR) (l := rows) (xs := xs)) (K := K) hD (fun _ y _ => y = .bl false) (fun _ => true) (fun H' s2 => ⟨s2.seq ha, ht.same s2⟩) (fun _ _ _ _ _ h => h) (by omega) (fun i d y H2 Q1 Q0 s2 hi hy k1 _ => ?_) (fun H2 bs s2 hD2 hp => ?_)⟩
    · obtain ⟨q, rfl, hq⟩ := tpI_inv hy
      obtain ⟨_, _, b3, _⟩ := ok.bd d (List.mem_of_getElem? hi)
      refine ⟨q, _, rfl, hq, rfl, _, _, rfl, _, _, rfl, _, _, rfl, rfl, rfl, yes_ ⟨_, rfl, _, rfl, _, _, rfl, rfl, qF ?_ (k1 rfl _ _ (Same.refl _) rfl)⟩⟩
      split <;> omega
    · obtain ⟨bs', e, hb⟩ := all_false hp
      subst e
      refine ⟨_, _, rfl, SqL.of hD2, _, rfl, ?_⟩
      rw [hb]
      refine iteF ⟨_, rfl, fun x dx hx hdx hne => ?_⟩
      exact make_look (hv0.same s2) ok hx hdx hne fun z H' rows' last s3 pm li => k z H' rows' last (s2.trans s3) pm li
abbrev N_scaled_look : List Str := ["look", "by", "spot", "tick", "weight"]
theorem sc_scaled_look : FnScope N_scaled_look ["look", "by"] (defScope s_scaled_look) := ⟨rfl, rfl, rfl, by decide +kernel, rfl, by decide +kernel, by decide +kernel⟩
def sp_scaled (K : PySem.W.Frag) : Sp := fun vs H Q _ => ∃ (v : V) (b : Int) (rows : List PRow) (last : Nat) (c : Int), vs = [v, .int b] ∧ LookIs K H v rows last c ∧ (-MW ≤ b ∧ b ≤ MW) ∧ b ≠ 0 ∧ RowsOk (rows.map (scaleRow b)) c ∧
  ∀ z H' rows' last, Same H H' → rows'.Perm (rows.map (scaleRow b)) → LookIs K H' z rows' last c → Q z H'
theorem O_scaled_look (T : Tx K mg) : Ok P w K mg base 9 (He.ga K "scaled_look") ["look", "by"] (sp_scaled K) := by
  have O_need_lookD := O_need_lookD (P := P) (w := w) (base := base) T
  have O_weighed := O_weighed (P := P) (w := w) (base := base) T
  have O_is_weight := O_is_weight (P := P) (w := w) (base := base) T
  refine Ok.mk T.f_scaled_look sc_scaled_look (fun vs H Q E h => ?_) (fun _ _ _ _ _ _ us hl => match us, hl with | [_, _], _ => rfl) (fun cdv A outer s H vs Q E hr h => ?_)
  · obtain ⟨v, b, rows, last, c, rfl, _⟩ := h; rfl
  · obtain ⟨v, b, rows, last, c, rfl, li, hb, hb0, ok2, k⟩ := h
    have hF : FAR = 1000000 := rfl
    have hM : MW = 1000000 := rfl
    refine ⟨_, (pss_cons (ps_expr (pe_fnD O_need_lookD (hr.mono (by decide)) T.g_need_look (pa_cons (pv 0) pa_nil)))
      (pss_cons (ps_if (pt_not (pt_val (pe_fn O_is_weight (hr.mono (by decide)) T.g_is_weight (pa_cons (pv 1) pa_nil))))
      (pss_one ps_never)
      pss_nil)
      (pss_one (ps_ret (pe_fn O_weighed (hr.mono (by decide)) T.g_weighed (pa_cons (pe_lc (own := [("spot", 2), ("tick", 3), ("weight", 4)]) rfl sc_scaled_look.nd (pi_tup (pe_fld (pv 0) rfl)) (blkOk_by (N := N_scaled_look) (sc := defScope s_scaled_look) (by decide +kernel)) (fun _ _ _ _ _ => (pg_tupK (K := K) (n := 3) rfl rfl (pgs_cons (pg_name (i := 2) sc_scaled_look.nd rfl (.inl rfl) (by first | exact .inl rfl | exact .inr rfl)) (pgs_cons (pg_name (i := 3) sc_scaled_look.nd rfl (.inl rfl) (by first | exact .inl rfl | exact .inr rfl)) (pgs_cons (pg_name (i := 4) sc_scaled_look.nd rfl (.inl rfl) (by first | exact .inl rfl | exact .inr rfl)) pgs_nil))))) (fun _ _ _ _ _ => pts_nil) (fun _ _ _ _ _ => (pe_tup (pa_cons (pv 2) (pa_cons (pv 3) (pa_cons (pe_op op_mul (pv 4) (pv 1)) pa_nil)))))) pa_nil)))))), ?_⟩
    refine ⟨_, rfl, _, _, rows, last, c, rfl, li, ?_⟩
    obtain ⟨⟨a, dx, t, rfl, h1, h2⟩, ok, _⟩ := li
    have hl := ok.len
    obtain ⟨ta, xs, rfl, h3, h4, h5⟩ := tpL_inv h2
    refine ⟨_, rfl, b, rfl, hb, hb0, _, rfl, iteF ?_⟩
    refine ⟨_, rfl, a, _, dx, _, _, rfl, h1, T.c_Look, T.a_Look_rows, rfl, ta, rfl, ⟨_, h3⟩, fun D hD => lc_src (Src.tp (K := K) (f := dR) (l := rows) (xs := xs)) (K := K) hD (fun r y H => Tp K H y (dR (scaleRow b r))) (fun _ => true) (fun H' s2 => ⟨same_t s2 h3, h4.same s2⟩) (fun _ _ _ _ s h => Tp.stay s h) (by omega) (fun i d y H2 Q1 Q0 s2 hi hy k1 _ => ?_) (fun H2 ys s2 hD2 hp => ?_)⟩
    · obtain ⟨q, rfl, hq⟩ := tpI_inv hy
      obtain ⟨_, _, b3, _⟩ := ok.bd d (List.mem_of_getElem? hi)
      refine ⟨q, _, rfl, hq, rfl, _, _, rfl, _, _, rfl, _, _, rfl, rfl, rfl, yes_ ⟨_, rfl, _, rfl, _, rfl, _, rfl, _, _, rfl, rfl, .inl ⟨by omega, by omega⟩, (by show 3 ≤ sizeLine; decide), fun p hp => ?_⟩⟩
      exact k1 rfl _ _ (same_new hp) (tpI (ns := [d.1, (d.2.1 : Nat), d.2.2 * b]) (SqT.of upd_same))
    · rw [List.filter_eq_self.mpr (by simp)] at hp
      refine ⟨_, _, c, rfl, ⟨D, ys, rfl, SqL.of hD2, ?_⟩, ok2, fun z H' rows' last s3 pm li2 => k z H' rows' last (s2.trans s3) pm li2⟩
      have := paired_tp (f := fun r => dR (scaleRow b r)) hp
      rw [List.map_map]
      exact this
abbrev N_moved_look : List Str := ["look", "spots", "ticks", "rows", "spot", "tick", "weight", "_"]
theorem sc_moved_look : FnScope N_moved_look ["look", "spots", "ticks"] (defScope s_moved_look) := ⟨rfl, rfl, rfl, by decide +kernel, rfl, by decide +kernel, by decide +kernel⟩
def sp_moved (K : PySem.W.Frag) : Sp := fun vs H Q _ => ∃ (v : V) (m : Int) (rows : List PRow) (last : Nat) (c c2 : Int), vs = [v, .int m, .int 0] ∧ LookIs K H v rows last c ∧ RowsOk (rows.map (moveRow m)) c2 ∧
  ∀ z H' rows' last, Same H H' → rows'.Perm (rows.map (moveRow m)) → LookIs K H' z rows' last c2 → Q z H'
theorem O_moved_look (T : Tx K mg) : Ok P w K mg base 8 (He.ga K "moved_look") ["look", "spots", "ticks"] (sp_moved K) := by
  have O_need_lookD := O_need_lookD (P := P) (w := w) (base := base) T
  have O_need_number := O_need_number (P := P) (w := w) (base := base) T
  have O_Look_init := O_Look_init (P := P) (w := w) (base := base) T
  refine Ok.mk T.f_moved_look sc_moved_look (fun vs H Q E h => ?_) (fun _ _ _ _ _ _ us hl => match us, hl with | [_, _, _], _ => rfl) (fun cdv A outer s H vs Q E hr h => ?_)
  · obtain ⟨v, m, rows, last, c, c2, rfl, _⟩ := h; rfl
  · obtain ⟨v, m, rows, last, c, c2, rfl, li, ok2, k⟩ := h
    have hF : FAR = 1000000 := rfl
    have hM : MW = 1000000 := rfl
    refine ⟨_, (pss_cons (ps_expr (pe_fnD O_need_lookD (hr.mono (by decide)) T.g_need_look (pa_cons (pv 0) pa_nil)))
      (pss_cons (ps_expr (pe_fn O_need_number (hr.mono (by decide)) T.g_need_number (pa_cons (pv 1) (pa_cons pe_str (pa_cons pe_non (pa_cons pe_non pa_nil))))))
      (pss_cons (ps_expr (pe_fn O_need_number (hr.mono (by decide)) T.g_need_number (pa_cons (pv 2) (pa_cons pe_str (pa_cons pe_non (pa_cons pe_non pa_nil))))))
      (pss_cons (ps_setLc (i := 3) (own := [("spot", 4), ("tick", 5), ("weight", 6)]) rfl sc_moved_look.nd rfl rfl (sw_true rfl rfl rfl (by decide +kernel)) (pi_tup (pe_fld (pv 0) rfl)) (blkOk_by (N := N_moved_look) (sc := defScope s_moved_look) (by decide +kernel)) (fun _ _ _ _ _ => (pg_tupK (K := K) (n := 3) rfl rfl (pgs_cons (pg_name (i := 4) sc_moved_look.nd rfl (.inl rfl) (by first | exact .inl rfl | exact .inr rfl)) (pgs_cons (pg_name (i := 5) sc_moved_look.nd rfl (.inl rfl) (by first | exact .inl rfl | exact .inr rfl)) (pgs_cons (pg_name (i := 6) sc_moved_look.nd rfl (.inl rfl) (by first | exact .inl rfl | exact .inr rfl)) pgs_nil))))) (fun _ _ _ _ _ => pts_nil) (fun _ _ _ _ _ => (pe_tup (pa_cons (pe_op op_add (pv 4) (pv 1)) (pa_cons (pe_op op_add (pv 5) (pv 2)) (pa_cons (pv 6) pa_nil))))))
      (pss_cons (ps_if (pt_not (pt_val (pe_callB (cr_all rfl) (by rfl) T.z_all (by decide +kernel) (pa_cons (pe_lc (own := [("spot", 4), ("_", 7), ("_", 7)]) rfl sc_moved_look.nd (pi_list (pv 3)) (blkOk_by (N := N_moved_look) (sc := defScope s_moved_look) (by decide +kernel)) (fun _ _ _ _ _ => (pg_tupK (K := K) (n := 3) rfl rfl (pgs_cons (pg_name (i := 4) sc_moved_look.nd rfl (.inl rfl) (by first | exact .inl rfl | exact .inr rfl)) (pgs_cons (pg_name (i := 7) sc_moved_look.nd rfl (.inl rfl) (by first | exact .inl rfl | exact .inr rfl)) (pgs_cons (pg_name (i := 7) sc_moved_look.nd rfl (.inl rfl) (by first | exact .inl rfl | exact .inr rfl)) pgs_nil))))) (fun _ _ _ _ _ => pts_nil) (fun _ _ _ _ _ => (pe_cmpR op_le (pe_callB call_abs (by rfl) T.z_abs (by decide +kernel) (pa_cons (pv 4) pa_nil)) (pe_glob (v := .int 1000000) (by rfl) T.i_FARTHEST.choose_spec ⟨_, rfl⟩) (nomark _)))) pa_nil))))
      (pss_one ps_never)
      pss_nil)
      (pss_cons (ps_if (pt_not (pt_val (pe_callB (cr_all rfl) (by rfl) T.z_all (by decide +kernel) (pa_cons (pe_lc (own := [("_", 7), ("tick", 5), ("_", 7)]) rfl sc_moved_look.nd (pi_list (pv 3)) (blkOk_by (N := N_moved_look) (sc := defScope s_moved_look) (by decide +kernel)) (fun _ _ _ _ _ => (pg_tupK (K := K) (n := 3) rfl rfl (pgs_cons (pg_name (i := 7) sc_moved_look.nd rfl (.inl rfl) (by first | exact .inl rfl | exact .inr rfl)) (pgs_cons (pg_name (i := 5) sc_moved_look.nd rfl (.inl rfl) (by first | exact .inl rfl | exact .inr rfl)) (pgs_cons (pg_name (i := 7) sc_moved_look.nd rfl (.inl rfl) (by first | exact .inl rfl | exact .inr rfl)) pgs_nil))))) (fun _ _ _ _ _ => pts_nil) (fun _ _ _ _ _ => (pe_chain op_le op_le pe_int (pv 5) (pe_glob (v := .int 60) (by rfl) T.i_MOST_TICK.choose_spec ⟨_, rfl⟩)))) pa_nil))))
      (pss_one ps_never)
      pss_nil)
      (pss_one (ps_ret (pe_mk O_Look_init T.k_Look (hr.mono (by decide)) T.g_Look (pa_cons (pv 3) pa_nil)))))))))), ?_⟩
    refine ⟨_, rfl, _, _, rows, last, c, rfl, li, ?_⟩
    obtain ⟨⟨a, dx, t, rfl, h1, h2⟩, ok, _⟩ := li
    have hl := ok.len
    obtain ⟨ta, xs, rfl, h3, h4, h5⟩ := tpL_inv h2
    refine ⟨_, rfl, m, _, none, none, rfl, (fun _ e => by cases e), (fun _ e => by cases e), ?_⟩
    refine ⟨_, rfl, 0, _, none, none, rfl, (fun _ e => by cases e), (fun _ e => by cases e), ?_⟩
    refine ⟨_, rfl, a, _, dx, _, _, rfl, h1, T.c_Look, T.a_Look_rows, rfl, ta, rfl, ⟨_, h3⟩, fun D hD => lc_src (Src.tp (K := K) (f := dR) (l := rows) (xs := xs)) (K := K) hD (fun r y H => Tp K H y (dR (moveRow m r))) (fun _ => true) (fun H' s2 => ⟨same_t s2 h3, h4.same s2⟩) (fun _ _ _ _ s h => Tp.stay s h) (by omega) (fun i d y H2 Q1 Q0 s2 hi hy k1 _ => ?_) (fun H2 ys s2 hD2 hp => ?_)⟩
    · obtain ⟨q, rfl, hq⟩ := tpI_inv hy
      refine ⟨q, _, rfl, hq, rfl, _, _, rfl, _, _, rfl, _, _, rfl, rfl, rfl, yes_ ⟨_, rfl, _, rfl, _, _, rfl, rfl, _, rfl, _, rfl, _, _, rfl, rfl, _, rfl, (by show 3 ≤ sizeLine; decide), fun p hp => ?_⟩⟩
      refine k1 rfl _ _ (same_new hp) (tpI (ns := [d.1 + m, (d.2.1 : Nat), d.2.2]) (SqT.of ?_))
      rw [upd_same]
      show some (HO.tup [.int (d.1 + m), .int (((d.2.1 : Nat) : Int) + 0), .int d.2.2]) = _
      rw [Int.add_zero]
      rfl
    · rw [List.filter_eq_self.mpr (by simp)] at hp
      have tz := paired_tp (f := fun r => dR (moveRow m r)) hp
      have tz' : TpAll K H2 ys ((rows.map (moveRow m)).map dR) := by rw [List.map_map]; exact tz
      have hD' := SqL.of (K := K) hD2
      have l2 := ok2.len
      have yl : ys.length ≤ 1000000 := by rw [tz'.length, List.length_map]; omega
      refine ⟨_, rfl, D, rfl, ⟨_, hD'⟩, fun D2 hD3 => lc_src (Src.lp (K := K) (f := dR) (l := rows.map (moveRow m)) (xs := ys)) (K := K) hD3 (fun _ y _ => y = .bl true) (fun _ => true) (fun H' s3 => ⟨s3.seq hD', tz'.same s3⟩) (fun _ _ _ _ _ h => h) (by omega) (fun i d y H3 Q1 Q0 s3 hi hy k1 _ => ?_) (fun H3 bs s3 hD4 hp3 => ?_)⟩
      · obtain ⟨q, rfl, hq⟩ := tpI_inv hy
        obtain ⟨b1, _, _, _⟩ := ok2.bd d (List.mem_of_getElem? hi)
        refine ⟨q, _, rfl, hq, rfl, _, _, rfl, _, _, rfl, _, _, rfl, rfl, rfl, yes_ ⟨_, rfl, _, rfl, _, _, rfl, rfl, qT ?_ (k1 rfl _ _ (Same.refl _) rfl)⟩⟩
        split <;> omega
      · obtain ⟨bs', e, hb⟩ := all_true (K := K) (H := H3) hp3
        subst e
        refine ⟨_, _, rfl, SqL.of hD4, _, rfl, ?_⟩
        rw [hb]
        have hD5 := s3.seq hD'
        refine iteF ⟨_, rfl, D, rfl, ⟨_, hD5⟩, fun D3 hD6 => lc_src (Src.lp (K := K) (f := dR) (l := rows.map (moveRow m)) (xs := ys)) (K := K) hD6 (fun _ y _ => y = .bl true) (fun _ => true) (fun H' s4 => ⟨s4.seq hD5, tz'.same (s3.trans s4)⟩) (fun _ _ _ _ _ h => h) (by omega) (fun i d y H4 Q1 Q0 s4 hi hy k1 _ => ?_) (fun H4 bs s4 hD7 hp4 => ?_)⟩
        · obtain ⟨q, rfl, hq⟩ := tpI_inv hy
          obtain ⟨_, b2, _, _⟩ := ok2.bd d (List.mem_of_getElem? hi)
          refine ⟨q, _, rfl, hq, rfl, _, _, rfl, _, _, rfl, _, _, rfl, rfl, rfl, yes_ ⟨_, rfl, _, _, rfl, rfl, _, rfl, dT (by omega) ⟨_, _, rfl, rfl, qT (by omega) (k1 rfl _ _ (Same.refl _) rfl)⟩⟩⟩
        · obtain ⟨bs', e, hb2⟩ := all_true (K := K) (H := H4) hp4
          subst e
          refine ⟨_, _, rfl, SqL.of hD7, _, rfl, ?_⟩
          rw [hb2]
          refine iteF ⟨_, rfl, fun x dx hx hdx hne => ?_⟩
          have lp : Lp K H4 (.ref D) ((rows.map (moveRow m)).map dR) := ⟨D, ys, rfl, s4.seq hD5, tz'.same (s3.trans s4)⟩
          exact make_look lp ok2 hx hdx hne fun z H' rows' last s5 pm li2 => k z H' rows' last ((s2.trans s3).trans (s4.trans s5)) pm li2
end
end Nw
namespace Nw
open PySem PySem.Spec PyProof.Rows L2 Nd
/-- rows as a dict's entries -/
def kyR (r : PRow) : List Key := [Sum.inl r.1, Sum.inl ((r.2.1 : Nat) : Int)]
abbrev entR (rows : List PRow) : List (List Key × V) := rows.map fun r => (kyR r, V.int r.2.2)
theorem kyR_inj {a b : PRow} (h : kyR a = kyR b) : rowKey a = rowKey b := by
  unfold kyR at h
  simp only [List.cons.injEq, Sum.inl.injEq, and_true] at h
  exact Prod.ext h.1 (by show a.2.1 = b.2.1; omega)
theorem ent_none {rows : List PRow} {r : PRow} (h : ∀ q ∈ rows, rowKey q ≠ rowKey r) : ((entR rows).any fun kv => decide (kv.1 = kyR r)) = false := by
  rw [List.any_map, List.any_eq_false]
  intro q hq
  simp only [Function.comp, decide_eq_true_eq]
  exact fun e => h q hq (kyR_inj e)
theorem ent_val {rows : List PRow} {r : PRow} (h : ∀ q ∈ rows, rowKey q ≠ rowKey r) : valV (entR rows) (kyR r) = none := by
  have := valV_any (kyR r) (entR rows)
  rw [ent_none h] at this
  cases e : valV (entR rows) (kyR r) with
  | none => rfl
  | some v => rw [e] at this; cases this
theorem ent_put {rows : List PRow} {r : PRow} {z : Int} (h : ∀ q ∈ rows, rowKey q ≠ rowKey r) : putK (entR rows) (kyR r) (.int z) = entR rows ++ [(kyR r, .int z)] := by
  unfold putK
  rw [ent_none h]
  rfl
theorem Stay.unlockT {K : PySem.W.Frag} {H : Hp} {d : Addr} {od : Obj} {kvs : List (List Key × V)} {o : HO} (h : H d = some (.frz od (.dT kvs))) : Stay K H (upd H d o) := by
  refine ⟨fun a xs q => ?_, fun a xs q => by rw [upd_ne (fun e => by rw [e, h] at q; cases q)]; exact q⟩
  rcases q with (q | ⟨ob, q⟩) | q
  · exact .inl (.inl (by rw [upd_ne (fun e => by rw [e, h] at q; cases q)]; exact q))
  · exact .inl (.inr ⟨ob, by rw [upd_ne (fun e => by rw [e, h] at q; cases q)]; exact q⟩)
  · exact .inr q
theorem Src.itR {d : Addr} {o : Obj} {rows : List PRow} : Src (ItiT d o (entR rows)) (fun H => H d = some (.frz o (.dT (entR rows)))) rows (fun r x H => ∃ T q, x = .ref T ∧ H T = some (.tup [.ref q, .int r.2.2]) ∧ H q = some (.tup [.int r.1, .int (r.2.1 : Nat)])) where
  go := fun i H h hi => ⟨h, by rw [List.length_map]; exact hi⟩
  stop := fun H h => ⟨h, by rw [List.length_map]; exact Nat.le_refl _⟩
  yld := fun i r x H H' h e y => by
    obtain ⟨T, k, v, q, h1, h2, h3, h4, rfl⟩ := y
    rw [List.getElem?_map, e] at h1
    cases h1
    exact ⟨same_new h3, T, q, h2, upd_same, (same_new h3) _ _ h4⟩
theorem canLay_rows : ∀ rows : List PRow, PyData.canLayAll0 (rows.map dR) = true
  | [] => by simp only [List.map_nil, PyData.canLayAll0]
  | r :: rows => by
    rw [List.map_cons]
    simp only [PyData.canLayAll0]
    rw [canLay_rows rows]
    have : PyData.canLay0 (dR r) = true := by
      unfold dR dI
      simp only [PyData.canLay0]
      exact canLay_ints _
    rw [this]
    rfl
theorem depth_rows : ∀ rows : List PRow, PyData.depthAll (rows.map dR) ≤ 1
  | [] => by simp only [List.map_nil, PyData.depthAll]; omega
  | r :: rows => by
    rw [List.map_cons]
    simp only [PyData.depthAll]
    have h := depth_rows rows
    have : PyData.depth (dR r) = 1 := by
      unfold dR dI
      simp only [PyData.depth]
      rw [depth_ints]
    rw [this]
    omega
theorem shaped_rows (rows : List PRow) : SeqAt.shaped (.list (rows.map dR)) = true := by
  unfold SeqAt.shaped
  refine Bool.and_eq_true_iff.mpr ⟨?_, decide_eq_true ?_⟩
  · simp only [PyData.canLay0]
    exact canLay_rows rows
  · simp only [PyData.depth]
    have := depth_rows rows
    omega
theorem eqv_rows_nil {rows : List PRow} (h : rows ≠ []) : PyData.eqv (.list (rows.map dR)) (.list []) = false := by
  obtain ⟨r, rs, rfl⟩ := List.exists_cons_of_ne_nil h
  rw [List.map_cons]
  simp only [PyData.eqv, PyData.eqvAll]
section
variable {P : Program} {w : World} {K : PySem.W.Frag} {mg : Str → Option Value} {base : Heap}
abbrev N_joined_looks : List Str := ["one", "other", "found", "spot", "tick", "weight", "rows"]
theorem sc_joined_looks : FnScope N_joined_looks ["one", "other"] (defScope s_joined_looks) := ⟨rfl, rfl, rfl, by decide +kernel, rfl, by decide +kernel, by decide +kernel⟩
def sp_joined (K : PySem.W.Frag) : Sp := fun vs H Q _ => ∃ (u v : V) (ra rb : List PRow) (la lb : Nat) (c : Int), vs = [u, v] ∧ LookIs K H u ra la c ∧ LookIs K H v rb lb c ∧ (∀ p ∈ ra, ∀ q ∈ rb, rowKey p ≠ rowKey q) ∧ ra.length + rb.length ≤ 40 ∧
  ∀ z H' rows' last, Same H H' → rows'.Perm (ra ++ rb) → LookIs K H' z rows' last c → Q z H'
theorem O_joined_looks (T : Tx K mg) : Ok P w K mg base 9 (He.ga K "joined_looks") ["one", "other"] (sp_joined K) := by
  have O_need_look := O_need_look (P := P) (w := w) (base := base) T
  have O_weighed := O_weighed (P := P) (w := w) (base := base) T
  refine Ok.mk T.f_joined_looks sc_joined_looks (fun vs H Q E h => ?_) (fun _ _ _ _ _ _ us hl => match us, hl with | [_, _], _ => rfl) (fun cdv A outer s H vs Q E hr h => ?_)
  · obtain ⟨u, v, ra, rb, la, lb, c, rfl, _⟩ := h; rfl
  · obtain ⟨u, v, ra, rb, la, lb, c, rfl, li1, li2, dis, hlen, k⟩ := h
    have hu := Nat.lt_of_le_of_lt (Nat.add_le_add_left (by decide : 1 ≤ 64) _) hr.units
    refine ⟨_, (pss_cons (ps_expr (pe_fn O_need_look (hr.mono (by decide)) T.g_need_look (pa_cons (pv 0) (pa_cons pe_str pa_nil))))
      (pss_cons (ps_expr (pe_fn O_need_look (hr.mono (by decide)) T.g_need_look (pa_cons (pv 1) (pa_cons pe_str pa_nil))))
      (pss_cons (ps_if (pt_cmpR op_ne (pe_fld (pv 0) rfl) (pe_fld (pv 1) rfl) (nomark _))
      (pss_one ps_never)
      pss_nil)
      (pss_cons (ps_set (i := 2) sc_joined_looks.nd rfl (.inl rfl) pe_dnewT)
      (pss_cons (ps_for PassesOwn.never rfl (pi_tup (pe_op op_catT (pe_fld (pv 0) rfl) (pe_fld (pv 1) rfl))) (pg_tup rfl (pgs_cons (pg_name (i := 3) sc_joined_looks.nd rfl (.inl rfl) (by first | exact .inl rfl | exact .inr rfl)) (pgs_cons (pg_name (i := 4) sc_joined_looks.nd rfl (.inl rfl) (by first | exact .inl rfl | exact .inr rfl)) (pgs_cons (pg_name (i := 5) sc_joined_looks.nd rfl (.inl rfl) (by first | exact .inl rfl | exact .inr rfl)) pgs_nil))))
      (pss_one (ps_dput hu (pv 2) (pe_tup (pa_cons (pv 3) (pa_cons (pv 4) pa_nil))) (pe_op op_add (pe_dget2 hu (pv 2) (pe_tup (pa_cons (pv 3) (pa_cons (pv 4) pa_nil))) pe_int ⟨rfl, rfl, rfl, rfl⟩) (pv 5)) rfl)))
      (pss_cons (ps_lock (ps_setLc (i := 6) (own := [("weight", 5), ("spot", 3), ("tick", 4)]) rfl sc_joined_looks.nd rfl rfl (sw_true rfl rfl rfl (by decide +kernel)) (pi_itemsT (pv 2)) (blkOk_by (N := N_joined_looks) (sc := defScope s_joined_looks) (by decide +kernel)) (fun _ _ _ _ _ => (pg_tupK (K := K) (n := 2) rfl rfl (pgs_cons (pg_tupK (K := K) (n := 2) rfl rfl (pgs_cons (pg_name (i := 3) sc_joined_looks.nd rfl (.inl rfl) (by first | exact .inl rfl | exact .inr rfl)) (pgs_cons (pg_name (i := 4) sc_joined_looks.nd rfl (.inl rfl) (by first | exact .inl rfl | exact .inr rfl)) pgs_nil))) (pgs_cons (pg_name (i := 5) sc_joined_looks.nd rfl (.inl rfl) (by first | exact .inl rfl | exact .inr rfl)) pgs_nil)))) (fun _ _ _ _ _ => (pts_one (pt_cmpR op_ne (pv 5) pe_int (nomark _)))) (fun _ _ _ _ _ => (pe_tup (pa_cons (pv 3) (pa_cons (pv 4) (pa_cons (pv 5) pa_nil)))))))
      (pss_cons (ps_if (pt_cmpR (op_eqD hr.units) (pv 6) (pe_lst pa_nil) (nomark _))
      (pss_one ps_never)
      pss_nil)
      (pss_cons (ps_if (pt_cmpR op_gt (pe_callB call_len_seq (by rfl) T.z_len (by decide +kernel) (pa_cons (pv 6) pa_nil)) (pe_glob (v := .int 40) (by rfl) T.i_MOST_ROWS.choose_spec ⟨_, rfl⟩) (nomark _))
      (pss_one ps_never)
      pss_nil)
      (pss_one (ps_ret (pe_fn O_weighed (hr.mono (by decide)) T.g_weighed (pa_cons (pv 6) pa_nil)))))))))))), ?_⟩
    refine ⟨_, rfl, _, _, ra, la, c, rfl, li1, ?_⟩
    refine ⟨_, rfl, _, _, rb, lb, c, rfl, li2, ?_⟩
    obtain ⟨⟨a1, dx1, t1, rfl, h1, g1⟩, ok1, _⟩ := li1
    obtain ⟨⟨a2, dx2, t2, rfl, h2, g2⟩, ok2, _⟩ := li2
    obtain ⟨p1, x1, rfl, q1, m1, e1⟩ := tpL_inv g1
    obtain ⟨p2, x2, rfl, q2, m2, e2⟩ := tpL_inv g2
    refine ⟨_, rfl, a1, _, dx1, _, _, rfl, h1, T.c_Look, T.a_Look_colour, rfl, _, rfl, a2, _, dx2, _, _, rfl, h2, T.c_Look, T.a_Look_colour, rfl, rfl, _, rfl, ?_⟩
    rw [decide_eq_true rfl]
    refine iteF fun D hD => ?_
    have s1 : Same H (upd H D (.dT [])) := same_new hD
    have hx1 : x1 ≠ [] := fun e => by
      rw [e] at e1
      exact ok1.ne (List.eq_nil_of_length_eq_zero e1.symm)
    have hx2 : x2 ≠ [] := fun e => by
      rw [e] at e2
      exact ok2.ne (List.eq_nil_of_length_eq_zero e2.symm)
    have hsz : x1.length + x2.length ≤ sizeLine := Nat.le_trans (by omega : _ ≤ 40) (by decide)
    refine ⟨_, rfl, a1, _, dx1, _, _, rfl, s1 _ _ h1, T.c_Look, T.a_Look_rows, rfl, _, rfl, a2, _, dx2, _, _, rfl, s1 _ _ h2, T.c_Look, T.a_Look_rows, rfl, p1, p2, x1, x2, rfl, rfl, same_t s1 q1, same_t s1 q2, hx1, hsz, fun e => absurd e hx2, fun _ p hp => ?_⟩
    have s2 : Same H (upd (upd H D (.dT [])) p (.tup (x1 ++ x2))) := s1.trans (same_new hp)
    have tz : TpAll K (upd (upd H D (.dT [])) p (.tup (x1 ++ x2))) (x1 ++ x2) ((ra ++ rb).map dR) := by
      rw [List.map_append]
      exact (m1.same s2).append (m2.same s2)
    have hDp : D ≠ p := ne_of_none (upd_same (H := H) (a := D) (o := .dT [])) hp
    -- no two rows of one place
    have nd : ((ra ++ rb).map rowKey).Nodup := by
      rw [List.map_append, List.nodup_append]
      refine ⟨ok1.nd, ok2.nd, fun x hx y hy => ?_⟩
      obtain ⟨r, hr, rfl⟩ := List.mem_map.mp hx
      obtain ⟨q, hq, rfl⟩ := List.mem_map.mp hy
      exact dis r hr q hq
    have hlr : (ra ++ rb).length ≤ 40 := by rw [List.length_append]; exact hlen
    have okr : RowsOk (ra ++ rb) c := ⟨by simp [ok1.ne], hlr, nd, fun r hr => (List.mem_append.mp hr).elim (ok1.bd r) (ok2.bd r), fun r hr => (List.mem_append.mp hr).elim (ok1.col r) (ok2.col r)⟩
    generalize ra ++ rb = rows at tz nd hlr okr k
    refine ⟨p, rfl, ⟨_, SqT.of upd_same⟩, for_src (Src.tp (K := K) (f := dR) (l := rows) (xs := x1 ++ x2)) (fun i σ H' => ∃ o3 o4 o5, σ = [some (.ref a1), some (.ref a2), some (.ref D), o3, o4, o5, none] ∧ Same H H' ∧ SqT K H' p (x1 ++ x2) ∧ TpAll K H' (x1 ++ x2) (rows.map dR) ∧ H' D = some (.dT (entR (rows.take i)))) ?_ ?_ ?_ ?_⟩
    · exact ⟨_, _, _, rfl, s2, SqT.of upd_same, tz, by rw [upd_ne hDp]; exact upd_same⟩
    · rintro i σ H' _ ⟨_, _, _, _, _, q3, t3, _⟩
      exact ⟨q3, t3⟩
    · rintro i d x σ H2 H3 hi ⟨o3, o4, o5, rfl, s3, q3, t3, hD2⟩ s4 hx
      obtain ⟨q, rfl, hq⟩ := tpI_inv hx
      have hlt := (List.getElem?_eq_some_iff.mp hi).1
      have ei := (List.getElem?_eq_some_iff.mp hi).2
      have fr : ∀ q ∈ rows.take i, rowKey q ≠ rowKey d := by
        intro q hq e
        obtain ⟨j, hj, ej⟩ := List.mem_iff_getElem.mp hq
        rw [List.length_take] at hj
        rw [List.getElem_take] at ej
        have ne := List.pairwise_iff_getElem.mp (List.nodup_iff_pairwise_ne.mp nd) j i (by rw [List.length_map]; omega) (by rw [List.length_map]; exact hlt) (by omega)
        rw [List.getElem_map, List.getElem_map, ej, ei] at ne
        exact ne e
      have hD3 := s4 _ _ hD2
      refine ⟨q, _, rfl, hq, rfl, _, _, rfl, _, _, rfl, _, _, rfl, rfl, ?_⟩
      refine ⟨_, rfl, D, rfl, .inr ⟨_, .of hD3⟩, _, rfl, _, rfl, (by show 2 ≤ sizeLine; decide), fun y1 hy1 => ?_⟩
      have w1 : Same H3 (upd H3 y1 (.tup [.int d.1, .int (d.2.1 : Nat)])) := same_new hy1
      refine ⟨_, DGet.t (k := kyR d) (w1 _ _ hD3) upd_same, _, rfl, 0, d.2.2, (by rw [ent_val fr]; rfl), rfl, ?_⟩
      refine ⟨_, rfl, _, rfl, _, rfl, (by show 2 ≤ sizeLine; decide), fun y2 hy2 => ?_⟩
      have w2 : Same _ (upd (upd H3 y1 (.tup [.int d.1, .int (d.2.1 : Nat)])) y2 (.tup [.int d.1, .int (d.2.1 : Nat)])) := same_new hy2
      have hD5 := w2 _ _ (w1 _ _ hD3)
      have small : (entR (rows.take i)).length < sizeLine := by
        rw [List.length_map, List.length_take]
        exact Nat.lt_of_le_of_lt (by omega : _ ≤ 40) (by decide)
      have st : Stay K (upd (upd H3 y1 (.tup [.int d.1, .int (d.2.1 : Nat)])) y2 (.tup [.int d.1, .int (d.2.1 : Nat)])) _ := Stay.dT (o := .dT (putK (entR (rows.take i)) (kyR d) (.int (0 + d.2.2)))) hD5
      have st2 := (Stay.same (K := K) (s4.trans (w1.trans w2))).trans st
      refine ⟨D, _, rfl, DPut.t (k := kyR d) hD5 upd_same small, _, _, _, rfl, same_put ((s3.trans s4).trans (w1.trans w2)) hD, st2.1 _ _ q3, TpAll.stay st2 t3, ?_⟩
      rw [upd_same, ent_put fr, Int.zero_add]
      show some (HO.dT _) = some (HO.dT _)
      rw [List.take_succ, hi]
      unfold entR
      rw [List.map_append]
      rfl
    · rintro σ H' ⟨o3, o4, o5, rfl, s3, q3, t3, hD2⟩
      rw [List.take_length] at hD2
      refine ⟨D, .dT _, hD2, trivial, fun od => ⟨_, rfl, D, od, _, rfl, upd_same, fun E1 hE1 => lc_src (Src.itR (d := D) (o := od) (rows := rows)) (K := K) hE1 (isR K) (fun _ => true) (fun H' s => s _ _ upd_same) isR_stay (by omega) (fun i d x H1 Q1 Q0 s2 hi hx k1 k0 => ?_) (fun Hc ys sc hEc hpc => ?_)⟩⟩
      · obtain ⟨T1, q, rfl, hT1, hq⟩ := hx
        obtain ⟨_, _, _, b4⟩ := okr.bd d (List.mem_of_getElem? hi)
        refine ⟨T1, _, rfl, SqT.of hT1, rfl, _, _, rfl, ⟨q, _, rfl, SqT.of hq, rfl, _, _, rfl, _, _, rfl, rfl, _, _, rfl, rfl, rfl, _, rfl, rfl, _, rfl, ?_⟩⟩
        rw [decide_eq_false (fun e => b4 (V.int.inj e))]
        refine iteT ⟨_, rfl, _, rfl, _, rfl, (by show 3 ≤ sizeLine; decide), fun y hy => ?_⟩
        exact k1 rfl _ _ (same_new hy) ⟨y, rfl, upd_same⟩
      · rw [List.filter_eq_self.mpr (by simp)] at hpc
        have hcD := sc _ _ (upd_same (H := H') (a := D) (o := .frz od (.dT (entR rows))))
        refine ⟨hcD, ?_⟩
        have sd := lock_same hD2 sc
        have stu : Stay K Hc (upd Hc D (.dT (entR rows))) := Stay.unlockT hcD
        have tz2 := TpAll.stay stu (tpAll_R hpc)
        have hE2 : (upd Hc D (.dT (entR rows))) E1 = some (.lst ys) := by
          rw [upd_ne (fun e => by rw [e, upd_same] at hE1; cases hE1)]
          exact hEc
        generalize upd Hc D (.dT (entR rows)) = Hd at sd tz2 hE2 ⊢
        have yl : ys.length = rows.length := by rw [tz2.length, List.length_map]
        refine ⟨_, rfl, Nat.zero_le _, fun p3 hp3 => ⟨.list (rows.map dR), .list [], ?_, ?_, shaped_rows _, rfl, _, rfl, ?_⟩⟩
        · exact .lst ((same_new (o := .lst []) hp3).seq (SqL.of hE2)) (tz2.same (same_new hp3)).dp
        · exact .lst (SqL.of upd_same) .nil
        · rw [eqv_rows_nil okr.ne]
          have hE3 : SqL K (upd Hd p3 (.lst [])) E1 ys := (same_new (o := .lst []) hp3).seq (SqL.of hE2)
          refine iteF ⟨_, rfl, E1, _, rfl, .inl hE3, _, _, rfl, rfl, _, rfl, ?_⟩
          refine dFa (by omega) ⟨_, rfl, _, rows, c, rfl, ⟨E1, ys, rfl, hE3, tz2.same (same_new hp3)⟩, okr, fun z H' rows' last s5 pm li => ?_⟩
          exact k z H' rows' last ((s3.trans sd).trans ((same_new hp3).trans s5)) pm li
end
end Nw
namespace Nw
open PySem PySem.Spec PyProof.Rows L2 Nd
section
variable {X : Cx}
/-- d != {} -/
def rNeE : R2 := fun x y H Q => ∃ a b kvs, x = .ref a ∧ y = .ref b ∧ H a = some (.dK kvs) ∧ H b = some (.dK []) ∧ Q (.bl (!kvs.isEmpty)) H
theorem op_neE (hu : X.A.units < cLine) : OpR X (compareOp .NotEq) rNeE := by
  intro pins s σ H x y v u Q I rx ry h
  obtain ⟨a, b, ks, rfl, rfl, ea, eb, q⟩ := h
  obtain rfl : v = Value.ref a := rx
  obtain rfl : u = Value.ref b := ry
  obtain ⟨_, ya, va, ra, da⟩ := (show ObjOk X.prog X.w H s.heap a (.dK ks) from I.hok a _ ea)
  obtain ⟨_, yb, vb, rb, db⟩ := (show ObjOk X.prog X.w H s.heap b (.dK []) from I.hok b _ eb)
  have hb : vb = [] := by cases rb; rfl
  have ha : ks.length = va.length := ra.length
  subst hb
  refine PySem.W.keq_ne (knd := mixKind X.prog X.w) (r := true) ya yb da db hu (fun e => ?_) (fin_bl I q ?_)
  · have hk : ks = [] := List.eq_nil_of_length_eq_zero (by rw [ha, e]; rfl)
    exact hits_all rb ra fun p hp => by rw [hk] at hp; cases hp
  · cases ks with
    | nil =>
      cases ra
      rfl
    | cons k ks =>
      have : ¬ va.length = 0 := by rw [← ha]; simp
      simp [this]
/-- a dict locked as it comes -/
def tLockA (td : TE) : TE := fun σ H Q => td σ H fun x H1 => ∃ d u, x = .ref d ∧ H1 d = some u ∧ Mut (some u) ∧ ∀ od, Q x (upd H1 d (.frz od u))
theorem pe_lockA {e : Expr} {te : TE} (h : PE X e te) : PE X e (tLockA te) := by
  refine ⟨fun pins s σ H Q I hw => thn (h.run pins s σ H _ I hw) fun v s1 ⟨x, H1, I1, r, d, u, ex, hd, mu, q⟩ => ?_⟩
  obtain ⟨od, I2⟩ := I1.lock hd mu
  exact ⟨x, _, I2, r, q od⟩
/-- a range object of three numbers -/
def rngO (p : Addr) (i j c : Int) : HO := .ext fun h => ∃ t t' t'', h.get? p = some { cls := .type "range", data := .fields #[.int i t, .int j t', .int c t''] }
def rRng3 : List V → Hp → VK → Prop := fun vs H Q => ∃ (i j c : Int) (n : Nat), vs = [.int i, .int j, .int c] ∧ RgC i j c n ∧ ∀ p, H p = none → Q (.ref p) (upd H p (rngO p i j c))
theorem call_rng3 : CallR X (.type "range") rRng3 := by
  intro pins s σ H xs us Q I r h
  obtain ⟨i, j, c, n, rfl, ⟨c0, c1, c2, c3⟩, q⟩ := h
  obtain ⟨u0, us1, rfl, r0, r⟩ := vals_cons r
  obtain ⟨u1, us2, rfl, r1, r⟩ := vals_cons r
  obtain ⟨u2, us3, rfl, r2, r⟩ := vals_cons r
  cases r
  obtain ⟨t, rfl⟩ := r0
  obtain ⟨t', rfl⟩ := r1
  obtain ⟨t'', rfl⟩ := r2
  refine call_range_3 c0 ?_ (.inl (PyProof.noPylong_small c1))
  have new : ObjOk X.prog X.w (upd H s.heap.objs.size (rngO s.heap.objs.size i j c)) (s.heap.push { cls := .type "range", data := .fields #[.int i t, .int j t', .int c t''] }) s.heap.objs.size (rngO s.heap.objs.size i j c) :=
    ⟨⟨t, t', t'', Heap.get?_push_size _ rfl⟩, ⟨_, Heap.get?_push_size _ rfl⟩, fun h1 h2 ⟨a, b, d, e⟩ k => ⟨a, b, d, k _ e⟩⟩
  exact ⟨.ref s.heap.objs.size, _, I.laid (t' := s.toks) (fun b o e => Heap.get?_push_of_some _ e) (Nat.le_refl _) new, rfl, q _ (I.hok.fresh (Nat.le_refl _))⟩
def iRngV (te : TE) : TI := fun σ H R => te σ H fun x H1 => ∃ p i j c n, x = .ref p ∧ H1 p = some (rngO p i j c) ∧ RgC i j c n ∧ R (Itc i c n) H1
theorem pi_rngV {tg e : Expr} {te : TE} (he : PE X e te) : PI X tg e (iRngV te) := by
  refine ⟨fun pins s σ H R I h => thn (he.run pins s σ H _ I h) fun v s1 ⟨x, H1, I1, r, p, i, j, c, n, ex, hp, ⟨c0, c1, c2, c3⟩, q⟩ => ?_⟩
  subst ex
  obtain rfl : v = Value.ref p := r
  obtain ⟨⟨t, t', t'', e0⟩, _⟩ := (show ObjOk X.prog X.w H1 s1.heap p (rngO p i j c) from I1.hok p _ hp)
  refine wpAny_pyIter_range e0 c2 ?_
  refine pi_one (tk := s1.toks) I1 _ (turn_rangeC _ i c n) ?_ q
  have e1 : i + ((0 : Nat) : Int) * c = i := by simp
  have e2 : (n : Int) - ((0 : Nat) : Int) = Builtin.Range.rangeSize i j c := by rw [c3]; simp
  show IsRangeIter _ _ (i + ((0 : Nat) : Int) * c) ((n : Int) - ((0 : Nat) : Int)) c
  rw [e1, e2]
  exact Heap.get?_push_size _ rfl
end
end Nw
namespace Nw
open PySem PySem.Spec PyProof.Rows L2 Nd
theorem rgc2 {i j : Int} {n : Nat} (hi : -1000000 ≤ i ∧ i ≤ 1000000) (hj : -1000000 ≤ j ∧ j ≤ 1000000) (hn : (n : Int) = if i < j then (j - i - 1) / 2 + 1 else 0) : RgC i j 2 n := by
  refine ⟨by decide, by decide, ?_, ?_⟩
  · unfold Builtin.Range.small
    have e : Builtin.Range.rangeSize i j 2 = (n : Int) := by
      unfold Builtin.Range.rangeSize
      rw [if_pos (by decide), hn]
    rw [e]
    simp only [Builtin.Range.rangeFitsLong, Bool.and_eq_true, Bool.or_eq_true, decide_eq_true_eq, beq_iff_eq, show ((2 : Int) > 0) by decide, if_true]
    split at hn <;> omega
  · unfold Builtin.Range.rangeSize
    rw [if_pos (by decide), hn]
section
variable {P : Program} {w : World} {K : PySem.W.Frag} {mg : Str → Option Value} {base : Heap}
abbrev N_first_counts : List Str := ["ticks", "found", "at", "before", "later", "far", "nearer"]
theorem sc_first_counts : FnScope N_first_counts ["ticks"] (defScope s_first_counts) := ⟨rfl, rfl, rfl, by decide +kernel, rfl, by decide +kernel, by decide +kernel⟩
def CntsAt (H : Hp) (L : Addr) (n : Nat) : Prop := ∃ ds : List Addr, H L = some (.lst (ds.map V.ref)) ∧ ds.length = n + 1 ∧ ∀ k d, ds[k]? = some d → H d = some (.dK (tabV V.int (cntT k)))
theorem CntsAt.same {H H' : Hp} {L : Addr} {n : Nat} (h : CntsAt H L n) (s : Same H H') : CntsAt H' L n := by
  obtain ⟨ds, h1, h2, h3⟩ := h
  exact ⟨ds, s _ _ h1, h2, fun k d e => s _ _ (h3 k d e)⟩
def sp_first (K : PySem.W.Frag) : Sp := fun vs H Q _ => ∃ n : Nat, vs = [.int n] ∧ n ≤ 60 ∧ ∀ L H', Same H H' → CntsAt H' L n → Q (.ref L) H'
theorem O_first_counts (T : Tx K mg) : Ok P w K mg base 1 (He.ga K "first_counts") ["ticks"] (sp_first K) := by
  refine Ok.mk T.f_first_counts sc_first_counts (fun vs H Q E h => ?_) (fun _ _ _ _ _ _ us hl => match us, hl with | [_], _ => rfl) (fun cdv A outer s H vs Q E hr h => ?_)
  · obtain ⟨n, rfl, _⟩ := h; rfl
  · obtain ⟨n, rfl, hn, k⟩ := h
    have hu := Nat.lt_of_le_of_lt (Nat.add_le_add_left (by decide : 1 ≤ 64) _) hr.units
    refine ⟨_, (pss_cons (ps_set (i := 1) sc_first_counts.nd rfl (.inl rfl) (pe_lst (pa_cons pe_dnewK pa_nil)))
      (pss_cons (ps_for PassesOwn.never rfl (pi_range2 (by rfl) T.z_range (pa_cons pe_int (pa_cons (pe_op op_add (pv 0) pe_int) pa_nil))) (pg_name (i := 2) sc_first_counts.nd rfl (.inl rfl) (by first | exact .inl rfl | exact .inr rfl))
      (pss_cons (ps_par (i := 3) (j := 4) rfl sc_first_counts.nd rfl rfl (by decide) rfl rfl (pa_cons (pe_ix ix_list (pv 1) (pe_un un_neg pe_int) (fun _ _ => rfl)) (pa_cons pe_dnewK pa_nil)) (by rfl))
      (pss_cons (ps_for PassesOwn.never rfl (pi_range3 (by rfl) T.z_range (pa_cons (pe_op op_sub pe_int (pe_op op_mod (pv 2) pe_int)) (pa_cons (pe_op op_add (pv 2) pe_int) (pa_cons pe_int pa_nil)))) (pg_name (i := 5) sc_first_counts.nd rfl (.inl rfl) (by first | exact .inl rfl | exact .inr rfl))
      (pss_cons (ps_set (i := 6) sc_first_counts.nd rfl (.inl rfl) (pe_ifExp (pt_cmpR op_gt (pv 5) pe_int (nomark _)) (pe_dget2 hu (pv 3) (pe_op op_sub (pv 5) pe_int) pe_int ⟨rfl, rfl, rfl, rfl⟩) (pe_callTy call_int1 (by rfl) T.z_int (by decide +kernel) (pa_cons (pe_cmpR op_eq (pv 2) pe_int (nomark _)) pa_nil))))
      (pss_one (ps_dput hu (pv 4) (pv 5) (pe_op op_add (pv 6) (pe_dget2 hu (pv 3) (pe_op op_add (pv 5) pe_int) pe_int ⟨rfl, rfl, rfl, rfl⟩)) rfl))))
      (pss_one (ps_expr (pe_bm PySem.F.plainAttrs_list PySem.F.slot_list_append PySem.F.type_list_append mt_append (pv 1) (pa_cons (pv 4) pa_nil)))))))
      (pss_one (ps_ret (pv 1))))), ?_⟩
    intro D0 hD0
    refine ⟨(by show 1 ≤ sizeLine; decide), fun L hL => ?_⟩
    have s0 : Same H (upd (upd H D0 (.dK [])) L (.lst [.ref D0])) := (same_new (o := .dK []) hD0).trans (same_new hL)
    have hLD : D0 ≠ L := ne_of_none (upd_same (H := H) (a := D0) (o := .dK [])) hL
    have hL0 : H L = none := none_back (same_new (o := .dK []) hD0) hL
    refine ⟨_, rfl, _, _, rfl, rfl, 1, (n : Int) + 1, rfl, by omega, ?_⟩
    refine for_src (Src.range (lo := 1) (n := ((n : Int) + 1 - 1).toNat)) (fun i σ H' => ∃ o2 o3 o4 o5 o6, σ = [some (.int n), some (.ref L), o2, o3, o4, o5, o6] ∧ Same H H' ∧ CntsAt H' L i) ?_ ?_ ?_ ?_
    · refine ⟨_, _, _, _, _, rfl, s0, [D0], upd_same, rfl, fun k d e => ?_⟩
      match k, e with
      | 0, e =>
        cases e
        rw [upd_ne hLD, upd_same]
        rfl
      | k + 1, e => simp at e
    · intro i σ H' _ _
      exact trivial
    · rintro i d x σ H1 H2 hi ⟨o2, o3, o4, o5, o6, rfl, s1, ds, g1, g2, g3⟩ s2 rfl
      obtain ⟨hi1, rfl⟩ := range_get hi
      have g1' := s2 _ _ g1
      obtain ⟨dp, dl, ed⟩ : ∃ dp dl, ds = dp ++ [dl] := by
        have hne : ds ≠ [] := fun e => by rw [e] at g2; simp at g2
        exact ⟨ds.dropLast, ds.getLast hne, (List.dropLast_concat_getLast hne).symm⟩
      have hdl : ds[d]? = some dl := by
        rw [ed] at g2 ⊢
        rw [List.length_append, List.length_singleton] at g2
        have : dp.length = d := by omega
        rw [← this]
        simp
      have atl : atI (ds.map V.ref) (-1) = some (.ref dl) := by rw [ed, List.map_append]; exact atI_last _ _
      have hb := s2 _ _ (g3 _ _ hdl)
      refine ⟨_, rfl, _, rfl, _, _, _, _, rfl, rfl, SqL.of g1', atl, fun D2 hD2 => ⟨_, _, rfl, ?_⟩⟩
      have g1D := ne_of_none g1' hD2
      have hbD := ne_of_none hb hD2
      rw [show (1 : Int) + (d : Int) = ((d + 1 : Nat) : Int) by omega]
      have s3 : Same H1 (upd H2 D2 (.dK [])) := s2.trans (same_new hD2)
      have hD20 : H D2 = none := none_back (s1.trans s2) hD2
      refine ⟨_, rfl, _, _, rfl, rfl, (by show (0 : Int) < 2; decide), _, _, rfl, rfl, _, rfl, _, _, rfl, rfl, _, _, _, (d + 1 + 1) / 2, rfl, rgc2 (by omega) (by omega) (by split <;> omega), ?_⟩
      refine for_src (Src.rangeC (n := (d + 1 + 1) / 2)) (fun j σ H' => ∃ o5 o6, σ = [some (.int n), some (.ref L), some (.int ((d + 1 : Nat) : Int)), some (.ref dl), some (.ref D2), o5, o6] ∧ Same H H' ∧ H' L = some (.lst (ds.map V.ref)) ∧ (∀ k d, ds[k]? = some d → H' d = some (.dK (tabV V.int (cntT k)))) ∧ H' D2 = some (.dK (tabV V.int ((cntT (d + 1)).take j)))) ?_ ?_ ?_ ?_
      · exact ⟨_, _, rfl, s1.trans s3, by rw [upd_ne g1D]; exact g1', fun k d e => s3 _ _ (g3 _ _ e), by rw [upd_same]; rfl⟩
      · intro j σ H' _ _
        exact trivial
      · rintro j0 j x σ H3 H4 hj ⟨o5, o6, rfl, s4, q1, q3, qD⟩ s5 rfl
        obtain ⟨hj1, rfl⟩ := range_get hj
        have ej : (cntT (d + 1))[j]? = some (2 - ((d + 1 : Nat) : Int) % 2 + 2 * (j : Int), R (d + 1) (2 - ((d + 1 : Nat) : Int) % 2 + 2 * (j : Int))) := by
          unfold cntT
          rw [List.getElem?_map, List.getElem?_range hj1]
          rfl
        rw [show 2 - ((d + 1 : Nat) : Int) % 2 + (j : Int) * 2 = 2 - ((d + 1 : Nat) : Int) % 2 + 2 * (j : Int) by omega]
        have st := cnt_step (k := d) (i := j)
        have pos : 1 ≤ 2 - ((d + 1 : Nat) : Int) % 2 + 2 * (j : Int) := by omega
        have b4 := s5 _ _ (q3 _ _ hdl)
        have d4 := s5 _ _ qD
        have len : ((cntT (d + 1)).take j).length ≤ 1000000 := by
          rw [List.length_take]
          omega
        have fresh : (2 - ((d + 1 : Nat) : Int) % 2 + 2 * (j : Int)) ∉ ((cntT (d + 1)).take j).map (·.1) := by
          intro hm
          rw [List.map_take] at hm
          obtain ⟨a, ha, ea⟩ := List.mem_iff_getElem.mp hm
          rw [List.length_take] at ha
          rw [List.getElem_take] at ea
          have hjl := (List.getElem?_eq_some_iff.mp ej).1
          have hje := (List.getElem?_eq_some_iff.mp ej).2
          have ne := List.pairwise_iff_getElem.mp (List.nodup_iff_pairwise_ne.mp (cnt_nodup (k := d + 1))) a j (by rw [List.length_map]; omega) (by rw [List.length_map]; exact hjl) (by omega)
          rw [ea, List.getElem_map, hje] at ne
          exact ne rfl
        generalize hf : 2 - ((d + 1 : Nat) : Int) % 2 + 2 * (j : Int) = far at ej st pos fresh
        have fin : ∀ (Dn : Ends) (nr : Int), nr + gets (cntT d) (far + 1) = R (d + 1) far → (∀ σ H', (∃ o5 o6, σ = [some (.int n), some (.ref L), some (.int ((d + 1 : Nat) : Int)), some (.ref dl), some (.ref D2), o5, o6] ∧ Same H H' ∧ H' L = some (.lst (ds.map V.ref)) ∧ (∀ k d, ds[k]? = some d → H' d = some (.dK (tabV V.int (cntT k)))) ∧ H' D2 = some (.dK (tabV V.int ((cntT (d + 1)).take (j + 1))))) → Dn.nx σ H') →
            sDPut (tVar 4) (tVar 5) (tOp (rI0 fun i j => V.int (i + j)) (tVar 6) (tDGet2 (tVar 3) (tOp (rI0 fun i j => V.int (i + j)) (tVar 5) (tC (V.int 1))) (tC (V.int 0)))) Dn [some (.int n), some (.ref L), some (.int ((d + 1 : Nat) : Int)), some (.ref dl), some (.ref D2), some (.int far), some (.int nr)] H4 := by
          intro Dn nr en hnx
          refine ⟨_, rfl, _, rfl, dl, rfl, isd_tab b4, _, rfl, _, _, rfl, rfl, _, dg_tab b4, nr, _, rfl, getD_tab, _, rfl, _, rfl, D2, _, rfl, dp_tab (v := nr + gets (cntT d) (far + 1)) d4 len, hnx _ _ ?_⟩
          refine ⟨_, _, rfl, same_put (s4.trans s5) hD20, by rw [upd_ne g1D]; exact s5 _ _ q1, fun k e hk => ?_, ?_⟩
          · rw [upd_ne (ne_of_none (s2 _ _ (g3 _ _ hk)) hD2)]
            exact s5 _ _ (q3 _ _ hk)
          · rw [upd_same, hasI_snoc fresh, List.take_succ, ej, en]
            rfl
        refine ⟨_, rfl, _, _, rfl, rfl, _, rfl, ?_⟩
        by_cases h1 : 1 < far
        · rw [if_pos h1] at st
          refine dT h1 ⟨_, rfl, dl, rfl, isd_tab b4, _, rfl, _, _, rfl, rfl, _, dg_tab b4, ?_⟩
          rw [getD_tab]
          exact fin _ _ st fun _ _ h => h
        · rw [if_neg h1] at st
          refine dFa h1 ⟨_, rfl, rfl, .inr ⟨_, rfl, ?_⟩⟩
          refine fin _ _ ?_ fun _ _ h => h
          rw [← st]
          congr 1
          by_cases e1 : ((d + 1 : Nat) : Int) = 1
          · rw [if_pos e1, if_pos (by rw [e1]; rfl)]
          · rw [if_neg e1, if_neg (by rw [decide_eq_false (fun h => e1 (V.int.inj h))]; decide)]
      · rintro σ H' ⟨o5, o6, rfl, s4, q1, q3, qD⟩
        rw [List.length_range, List.take_of_length_le (by unfold cntT; rw [List.length_map, List.length_range]; exact Nat.le_refl _)] at qD
        have hL' : SqL K H' L (ds.map V.ref) := SqL.of q1
        refine ⟨_, rfl, ty_list q1, _, rfl, L, _, _, rfl, rfl, q1, ?_, _, _, _, _, _, rfl, same_put s4 hL0, ds ++ [D2], ?_, ?_, fun k e hk => ?_⟩
        · rw [List.length_map, g2]
          exact Nat.lt_of_le_of_lt (by omega : _ ≤ 1000) (by decide)
        · rw [upd_same, List.map_append]
          rfl
        · rw [List.length_append, g2]; rfl
        · have hne : e ≠ L := by
            rcases (show ds[k]? = some e ∨ e = D2 by
              by_cases hk2 : k < ds.length
              · rw [List.getElem?_append_left hk2] at hk
                exact .inl hk
              · right
                rw [List.getElem?_append_right (by omega)] at hk
                have := List.mem_of_getElem? hk
                simpa using this) with h | h
            · exact ne_of (q3 _ _ h) q1 (by simp)
            · rw [h]; exact ne_of qD q1 (by simp)
          rw [upd_ne hne]
          by_cases hk2 : k < ds.length
          · rw [List.getElem?_append_left hk2] at hk
            exact q3 _ _ hk
          · rw [List.getElem?_append_right (by omega)] at hk
            have hk3 : k - ds.length = 0 := by
              have := (List.getElem?_eq_some_iff.mp hk).1
              simp at this
              omega
            rw [hk3] at hk
            cases hk
            rw [show k = d + 1 by omega]
            exact qD
    · rintro σ H' ⟨o2, o3, o4, o5, o6, rfl, s1, c1⟩
      rw [List.length_range, show ((n : Int) + 1 - 1).toNat = n by omega] at c1
      exact ⟨_, rfl, k _ _ s1 c1⟩
end
end Nw
namespace Nw
open PySem PySem.Spec PyProof.Rows L2 Nd
theorem lock_both {H H' : Hp} {d : Addr} {o : HO} (s : Same H H') : Same (upd H d o) (upd H' d o) := fun b u e => by
  by_cases eb : b = d
  · subst eb
    rw [upd_same] at e ⊢
    exact e
  · rw [upd_ne eb] at e ⊢
    exact s _ _ e
section
variable {P : Program} {w : World} {K : PySem.W.Frag} {mg : Str → Option Value} {base : Heap}
abbrev N_row_changes : List Str := ["row", "counts", "last", "place", "end", "weight", "found", "tick", "ahead", "far", "many", "changed"]
theorem sc_row_changes : FnScope N_row_changes ["row", "counts", "last"] (defScope s_row_changes) := ⟨rfl, rfl, rfl, by decide +kernel, rfl, by decide +kernel, by decide +kernel⟩
def sp_rowCh (K : PySem.W.Frag) : Sp := fun vs H Q _ => ∃ (v : V) (L : Addr) (r : PRow) (n last : Nat), vs = [v, .ref L, .int last] ∧ Tp K H v (dR r) ∧ CntsAt H L n ∧ r.2.1 ≤ n ∧ r.2.1 ≤ last ∧ last ≤ 6 ∧ (-MW ≤ r.2.2 ∧ r.2.2 ≤ MW) ∧
  ∀ z H', Same H H' → Lp K H' z ((chRow r last).map dR) → Q z H'
theorem O_row_changes (T : Tx K mg) : Ok P w K mg base 1 (He.ga K "row_changes") ["row", "counts", "last"] (sp_rowCh K) := by
  refine Ok.mk T.f_row_changes sc_row_changes (fun vs H Q E h => ?_) (fun _ _ _ _ _ _ us hl => match us, hl with | [_, _, _], _ => rfl) (fun cdv A outer s H vs Q E hr h => ?_)
  · obtain ⟨v, L, r, n, last, rfl, _⟩ := h; rfl
  · obtain ⟨v, L, r, n, last, rfl, hv, hc, hn, hl, hl6, hw, k⟩ := h
    obtain ⟨q, rfl, hq⟩ := tpI_inv hv
    have hM : MW = 1000000 := rfl
    refine ⟨_, (pss_cons (ps_asg (pv 0) (pg_tup rfl (pgs_cons (pg_name (i := 3) sc_row_changes.nd rfl (.inl rfl) (by first | exact .inl rfl | exact .inr rfl)) (pgs_cons (pg_name (i := 4) sc_row_changes.nd rfl (.inl rfl) (by first | exact .inl rfl | exact .inr rfl)) (pgs_cons (pg_name (i := 5) sc_row_changes.nd rfl (.inl rfl) (by first | exact .inl rfl | exact .inr rfl)) pgs_nil)))))
      (pss_cons (ps_set (i := 6) sc_row_changes.nd rfl (.inl rfl) (pe_lst pa_nil))
      (pss_cons (ps_for PassesOwn.never rfl (pi_range1 (by rfl) T.z_range (pa_cons (pv 4) pa_nil)) (pg_name (i := 7) sc_row_changes.nd rfl (.inl rfl) (by first | exact .inl rfl | exact .inr rfl))
      (pss_cons (ps_set (i := 8) sc_row_changes.nd rfl (.inl rfl) (pe_op op_sub (pv 4) (pv 7)))
      (pss_one (ps_lock (ps_for PassesOwn.never rfl (pi_items (pe_ix ix_list (pv 1) (pv 8) (fun _ _ => rfl))) (pg_tup rfl (pgs_cons (pg_name (i := 9) sc_row_changes.nd rfl (.inl rfl) (by first | exact .inl rfl | exact .inr rfl)) (pgs_cons (pg_name (i := 10) sc_row_changes.nd rfl (.inl rfl) (by first | exact .inl rfl | exact .inr rfl)) pgs_nil)))
      (pss_cons (ps_set (i := 11) sc_row_changes.nd rfl (.inl rfl) (pe_op op_shl (pe_op op_mul (pv 5) (pv 10)) (pe_op op_sub (pv 2) (pv 8))))
      (pss_one (ps_expr (pe_bm PySem.F.plainAttrs_list PySem.F.slot_list_extend PySem.F.type_list_extend mt_extend (pv 6) (pa_cons (pe_lst (pa_cons (pe_tup (pa_cons (pe_op op_sub (pv 3) (pv 9)) (pa_cons (pv 7) (pa_cons (pv 11) pa_nil)))) (pa_cons (pe_tup (pa_cons (pe_op op_add (pv 3) (pv 9)) (pa_cons (pv 7) (pa_cons (pe_un un_neg (pv 11)) pa_nil)))) pa_nil))) pa_nil))))))))))
      (pss_one (ps_ret (pv 6)))))), ?_⟩
    refine ⟨_, rfl, q, _, rfl, hq, rfl, _, _, rfl, _, _, rfl, _, _, rfl, rfl, ?_⟩
    refine ⟨Nat.zero_le _, fun F hF => ?_⟩
    have s0 : Same H (upd H F (.lst [])) := same_new hF
    refine ⟨_, rfl, _, rfl, by omega, by omega, ?_⟩
    refine for_src (Src.range (lo := 0) (n := ((r.2.1 : Nat) : Int).toNat)) (fun t σ H' => ∃ o7 o8 o9 o10 o11, σ = [some (.ref q), some (.ref L), some (.int last), some (.int r.1), some (.int (r.2.1 : Nat)), some (.int r.2.2), some (.ref F), o7, o8, o9, o10, o11] ∧ Same H H' ∧ ∃ ys, H' F = some (.lst ys) ∧ TpAll K H' ys ((((List.range t).map (chTick r last)).flatten).map dR) ∧ ys.length ≤ 20 * t) ?_ ?_ ?_ ?_
    · exact ⟨_, _, _, _, _, rfl, s0, [], upd_same, .nil, Nat.zero_le _⟩
    · intro t σ H' _ _
      exact trivial
    · rintro t0 t x σ H1 H2 hi ⟨o7, o8, o9, o10, o11, rfl, s1, ys, gF, gt, gl⟩ s2 rfl
      obtain ⟨ht, rfl⟩ := range_get hi
      rw [Int.toNat_natCast] at ht
      rw [show (0 : Int) + (t : Int) = (t : Int) by omega]
      have sx := s1.trans s2
      obtain ⟨ds, c1, c2, c3⟩ := hc
      have hk : r.2.1 - t < ds.length := by omega
      have hdk : ds[r.2.1 - t]? = some ds[r.2.1 - t] := List.getElem?_eq_getElem hk
      generalize ds[r.2.1 - t] = dk at hdk
      have hdH := c3 _ _ hdk
      refine ⟨_, rfl, _, rfl, _, _, rfl, rfl, ?_⟩
      refine ⟨dk, .dK _, sx _ _ hdH, trivial, fun od => ?_⟩
      have hLd : L ≠ dk := ne_of c1 hdH (by simp)
      have hFd : F ≠ dk := fun e => by rw [e, hdH] at hF; cases hF
      have cL : (upd H2 dk (.frz od (.dK (tabV V.int (cntT (r.2.1 - t)))))) L = some (.lst (ds.map V.ref)) := by
        rw [upd_ne hLd]
        exact sx _ _ c1
      have atk : atI (ds.map V.ref) (((r.2.1 : Nat) : Int) - (t : Int)) = some (.ref dk) := by
        rw [show ((r.2.1 : Nat) : Int) - (t : Int) = ((r.2.1 - t : Nat) : Int) by omega]
        exact atI_nat (by rw [List.getElem?_map, hdk]; rfl)
      have cl : (cntT (r.2.1 - t)).length ≤ 4 := by
        unfold cntT
        rw [List.length_map, List.length_range]
        omega
      refine ⟨_, rfl, _, rfl, _, _, _, _, rfl, rfl, SqL.of cL, atk, dk, od, _, rfl, upd_same, ?_⟩
      refine for_src (Src.itab (d := dk) (o := od) (f := V.int) (L := cntT (r.2.1 - t))) (fun j σ H' => ∃ o9 o10 o11, σ = [some (.ref q), some (.ref L), some (.int last), some (.int r.1), some (.int (r.2.1 : Nat)), some (.int r.2.2), some (.ref F), some (.int t), some (.int (((r.2.1 : Nat) : Int) - (t : Int))), o9, o10, o11] ∧
        Same (upd H dk (.frz od (.dK (tabV V.int (cntT (r.2.1 - t)))))) H' ∧ ∃ ys, H' F = some (.lst ys) ∧ TpAll K H' ys ((((List.range t).map (chTick r last)).flatten ++ (((cntT (r.2.1 - t)).take j).map (chFar r last t)).flatten).map dR) ∧ ys.length ≤ 20 * t + 2 * j) ?_ ?_ ?_ ?_
      · have stl : Stay K H2 (upd H2 dk (.frz od (.dK (tabV V.int (cntT (r.2.1 - t)))))) := Stay.dK (sx _ _ hdH)
        refine ⟨_, _, _, rfl, lock_both sx, ys, by rw [upd_ne hFd]; exact s2 _ _ gF, ?_, by omega⟩
        rw [List.take_zero, List.map_nil, List.flatten_nil, List.append_nil]
        exact (gt.same s2).stay stl
      · rintro j σ H' _ ⟨_, _, _, _, s3, _⟩
        exact s3 _ _ upd_same
      · rintro j f x σ H3 H4 hj ⟨o9, o10, o11, rfl, s3, zs, zF, zt, zl⟩ s4 ⟨Tq, rfl, hTq⟩
        have hm := List.mem_of_getElem? hj
        obtain ⟨f1, f2, f3⟩ := cnt_pos hm
        have rb := R_le (k := r.2.1 - t) (d := f.1)
        have p64 : (2 : Int) ^ (r.2.1 - t) ≤ 64 := by
          have := Nat.pow_le_pow_right (by decide : 0 < 2) (show r.2.1 - t ≤ 6 by omega)
          have h2 : ((2 ^ (r.2.1 - t) : Nat) : Int) ≤ 64 := by omega
          rw [Int.natCast_pow] at h2
          exact h2
        have fb : -64 ≤ f.2 ∧ f.2 ≤ 64 := by rw [f3]; omega
        have hjl := (List.getElem?_eq_some_iff.mp hj).1
        refine ⟨Tq, _, rfl, SqT.of hTq, rfl, _, _, rfl, _, _, rfl, rfl, ?_⟩
        have pb : -64000000 ≤ r.2.2 * f.2 ∧ r.2.2 * f.2 ≤ 64000000 := by
          have a1 : (r.2.2 * f.2).natAbs ≤ 64000000 := by
            rw [Int.natAbs_mul]
            calc r.2.2.natAbs * f.2.natAbs ≤ 1000000 * 64 := Nat.mul_le_mul (by omega) (by omega)
              _ = 64000000 := rfl
          omega
        refine ⟨_, rfl, _, rfl, _, _, rfl, rfl, .inl (by omega), _, rfl, _, rfl, _, _, rfl, rfl, _, _, rfl, rfl, ⟨by omega, by omega, by omega⟩, ?_⟩
        have ech : r.2.2 * f.2 * 2 ^ ((last : Int) - (((r.2.1 : Nat) : Int) - (t : Int))).toNat = r.2.2 * f.2 * 2 ^ (last - (r.2.1 - t)) := by
          rw [show ((last : Int) - (((r.2.1 : Nat) : Int) - (t : Int))).toNat = last - (r.2.1 - t) by omega]
        have zF4 := s4 _ _ zF
        have c3' : (3 : Nat) ≤ sizeLine := by decide
        refine ⟨_, rfl, ty_list zF4, _, rfl, _, rfl, _, _, rfl, rfl, _, rfl, _, rfl, c3', fun T1 hT1 => ?_⟩
        refine ⟨_, rfl, _, rfl, _, _, rfl, rfl, _, rfl, _, rfl, _, rfl, c3', fun T2 hT2 => ⟨(by show 2 ≤ sizeLine; decide), fun B hB => ?_⟩⟩
        have w1 : Same H4 (upd H4 T1 _) := same_new (o := .tup [.int (r.1 - f.1), .int (t : Nat), .int (r.2.2 * f.2 * 2 ^ ((last : Int) - (((r.2.1 : Nat) : Int) - (t : Int))).toNat)]) hT1
        have w2 : Same _ (upd _ T2 _) := same_new (o := .tup [.int (r.1 + f.1), .int (t : Nat), .int (-(r.2.2 * f.2 * 2 ^ ((last : Int) - (((r.2.1 : Nat) : Int) - (t : Int))).toNat))]) hT2
        have w3 : Same _ (upd _ B _) := same_new (o := .lst [.ref T1, .ref T2]) hB
        have w4 := w1.trans (w2.trans w3)
        have zF5 := w4 _ _ zF4
        have h1 := (w2.trans w3) _ _ (upd_same (H := H4) (a := T1) (o := .tup [.int (r.1 - f.1), .int (t : Nat), .int (r.2.2 * f.2 * 2 ^ ((last : Int) - (((r.2.1 : Nat) : Int) - (t : Int))).toNat)]))
        have h2 := w3 _ _ (upd_same (H := (upd H4 T1 (.tup [.int (r.1 - f.1), .int (t : Nat), .int (r.2.2 * f.2 * 2 ^ ((last : Int) - (((r.2.1 : Nat) : Int) - (t : Int))).toNat)]))) (a := T2) (o := .tup [.int (r.1 + f.1), .int (t : Nat), .int (-(r.2.2 * f.2 * 2 ^ ((last : Int) - (((r.2.1 : Nat) : Int) - (t : Int))).toNat))]))
        have h3 := upd_same (H := upd (upd H4 T1 (.tup [.int (r.1 - f.1), .int (t : Nat), .int (r.2.2 * f.2 * 2 ^ ((last : Int) - (((r.2.1 : Nat) : Int) - (t : Int))).toNat)])) T2 (.tup [.int (r.1 + f.1), .int (t : Nat), .int (-(r.2.2 * f.2 * 2 ^ ((last : Int) - (((r.2.1 : Nat) : Int) - (t : Int))).toNat))])) (a := B) (o := .lst [.ref T1, .ref T2])
        refine ⟨F, B, zs, [.ref T1, .ref T2], rfl, rfl, zF5, h3, ?_, ?_⟩
        · show zs.length + 2 ≤ sizeLine
          exact Nat.le_trans (by omega : _ ≤ 1000) (by decide)
        · have st := Stay.lst (K := K) (o := .lst (zs ++ [.ref T1, .ref T2])) zF5
          have hF0 : (upd H dk (.frz od (.dK (tabV V.int (cntT (r.2.1 - t)))))) F = none := by rw [upd_ne hFd]; exact hF
          refine ⟨_, _, _, rfl, same_put ((s3.trans s4).trans w4) hF0, _, upd_same, ?_, by simp; omega⟩
          have et : (cntT (r.2.1 - t)).take (j + 1) = (cntT (r.2.1 - t)).take j ++ [f] := by rw [List.take_succ, hj]; rfl
          have ef : (((cntT (r.2.1 - t)).take (j + 1)).map (chFar r last t)).flatten = (((cntT (r.2.1 - t)).take j).map (chFar r last t)).flatten ++ chFar r last t f := by
            rw [et, List.map_append, List.flatten_append, List.map_singleton, List.flatten_singleton]
          rw [ef, ← List.append_assoc, List.map_append]
          refine ((zt.same (s4.trans w4)).stay st).append ?_
          exact .cons (Tp.stay st (tpI (ns := [r.1 - f.1, (t : Nat), r.2.2 * f.2 * 2 ^ (last - (r.2.1 - t))]) (SqT.of (by rw [← ech]; exact h1)))) (.cons (Tp.stay st (tpI (ns := [r.1 + f.1, (t : Nat), -(r.2.2 * f.2 * 2 ^ (last - (r.2.1 - t)))]) (SqT.of (by rw [← ech]; exact h2)))) .nil)
      · rintro σ H' ⟨o9, o10, o11, rfl, s3, zs, zF, zt, zl⟩
        have hfz := s3 _ _ (upd_same (H := H) (a := dk) (o := .frz od (.dK (tabV V.int (cntT (r.2.1 - t))))))
        refine ⟨hfz, _, _, _, _, _, rfl, lock_same hdH s3, zs, by rw [upd_ne hFd]; exact zF, ?_, by omega⟩
        rw [List.take_length] at zt
        have st : Stay K H' (upd H' dk (.dK (tabV V.int (cntT (r.2.1 - t))))) := Stay.unlock hfz
        have := zt.stay st
        rw [List.range_succ, List.map_append (f := chTick r last), List.flatten_append, List.map_singleton, List.flatten_singleton]
        exact this
    · rintro σ H' ⟨o7, o8, o9, o10, o11, rfl, s1, ys, gF, gt, gl⟩
      rw [List.length_range, Int.toNat_natCast] at gt
      exact ⟨_, rfl, k _ _ s1 ⟨F, ys, rfl, SqL.of gF, gt⟩⟩
end
end Nw
namespace Nw
open PySem PySem.Spec PyProof.Rows L2 Nd
abbrev vR (n : Int) : V := .ref n.toNat
/-- the sums by spots: a dict of dicts -/
structure SumInv (H0 H : Hp) (D : Addr) (cs : List Chg) (S : Tab) : Prop where
  d : H D = some (.dK (tabV vR S))
  d0 : H0 D = none
  sm : Same H0 H
  nd : (S.map (·.1)).Nodup
  na : (S.map (·.2)).Nodup
  ge : ∀ p ∈ S, 0 ≤ p.2
  own : ∀ p ∈ S, H0 p.2.toNat = none ∧ ∃ Tb : Tab, H p.2.toNat = some (.dK (tabV V.int Tb)) ∧ (Tb.map (·.1)).Nodup ∧ Tb.length ≤ cs.length ∧ (∀ t : Nat, gets Tb t = sumAt cs p.1 t) ∧ ∀ q ∈ Tb, ∃ c ∈ cs, c.1 = p.1 ∧ q.1 = ((c.2.1 : Nat) : Int)
  all : ∀ c ∈ cs, c.1 ∈ S.map (·.1)
  from_ : ∀ p ∈ S, ∃ c ∈ cs, c.1 = p.1
  ln : S.length ≤ cs.length
theorem tab_ne {S Tb : Tab} {p : Int × Int} (h : p ∈ S) : tabV vR S ≠ tabV V.int Tb := by
  intro e
  cases S with
  | nil => cases h
  | cons a S =>
    cases Tb with
    | nil => simp at e
    | cons b Tb =>
      simp only [tabV, List.map_cons, List.cons.injEq, Prod.mk.injEq] at e
      exact absurd e.1.2 (by simp)
theorem put_same {S : Tab} {y a : Int} (hn : (S.map (·.1)).Nodup) (h : lookI S y = some a) : putI S y a = S := by
  have hm := lookI_in h
  have hh : hasI S y = true := hasI_mem.mpr (List.mem_map.mpr ⟨_, hm, rfl⟩)
  unfold putI
  rw [if_pos hh]
  refine (List.map_congr_left fun p hp => ?_).trans (List.map_id S)
  by_cases e : p.1 = y
  · rw [if_pos e]
    have h2 := lookI_mem hn hp
    rw [e, h] at h2
    exact Prod.ext rfl (Option.some.inj h2)
  · rw [if_neg e]; rfl
theorem sumAt_snoc {cs : List Chg} {c : Chg} {y : Int} {t : Nat} : sumAt (cs ++ [c]) y t = sumAt cs y t + if c.1 = y ∧ c.2.1 = t then c.2.2 else 0 := by
  unfold sumAt
  rw [lsum_append]
  show _ + (_ + 0) = _
  rw [Int.add_zero]
theorem SumInv.start {H0 : Hp} {D : Addr} (h : H0 D = none) : SumInv H0 (upd H0 D (.dK [])) D [] [] where
  d := upd_same
  d0 := h
  sm := same_new h
  nd := by simp
  na := by simp
  ge := fun p h => by cases h
  own := fun p h => by cases h
  all := fun c h => by cases h
  from_ := fun p h => by cases h
  ln := Nat.le_refl _
theorem SumInv.dne {H0 H : Hp} {D : Addr} {cs : List Chg} {S : Tab} (I : SumInv H0 H D cs S) {p : Int × Int} (h : p ∈ S) : p.2.toNat ≠ D := by
  obtain ⟨_, Tb, hT, _⟩ := I.own p h
  intro e
  rw [e, I.d] at hT
  exact tab_ne h (HO.dK.inj (Option.some.inj hT))
/-- a heap that adds fresh things -/
theorem SumInv.same {H0 H H' : Hp} {D : Addr} {cs : List Chg} {S : Tab} (I : SumInv H0 H D cs S) (s : Same H H') : SumInv H0 H' D cs S where
  d := s _ _ I.d
  d0 := I.d0
  sm := I.sm.trans s
  nd := I.nd
  na := I.na
  ge := I.ge
  own := fun p hp => by
    obtain ⟨a, Tb, b, r⟩ := I.own p hp
    exact ⟨a, Tb, s _ _ b, r⟩
  all := I.all
  from_ := I.from_
  ln := I.ln
/-- one change more, its spot known -/
theorem SumInv.more {H0 H : Hp} {D : Addr} {cs : List Chg} {S : Tab} (I : SumInv H0 H D cs S) {c : Chg} {a : Int} {Tb : Tab} (ha : lookI S c.1 = some a) (hT : H a.toNat = some (.dK (tabV V.int Tb))) :
    SumInv H0 (upd (upd H a.toNat (.dK (tabV V.int (addI Tb ((c.2.1 : Nat) : Int) c.2.2)))) D (.dK (tabV vR (putI S c.1 a)))) D (cs ++ [c]) S := by
  have hm := lookI_in ha
  have hne := I.dne hm
  obtain ⟨h0, Tb', hT', n', l', g', q'⟩ := I.own _ hm
  have eT : tabV V.int Tb' = tabV V.int Tb := HO.dK.inj (Option.some.inj (hT'.symm.trans hT))
  have eT2 : Tb' = Tb := by
    have inj : ∀ L M : Tab, tabV V.int L = tabV V.int M → L = M := by
      intro L
      induction L with
      | nil => intro M e; cases M with | nil => rfl | cons m M => simp at e
      | cons l L ih =>
        intro M e
        cases M with
        | nil => simp at e
        | cons m M =>
          simp only [tabV, List.map_cons, List.cons.injEq, Prod.mk.injEq, Sum.inl.injEq, V.int.injEq] at e
          rw [ih M e.2]
          exact congrArg (· :: M) (Prod.ext e.1.1 e.1.2)
    exact inj _ _ eT
  subst eT2
  rw [put_same I.nd ha]
  exact {
    d := upd_same
    d0 := I.d0
    sm := same_put (same_put I.sm h0) I.d0
    nd := I.nd
    na := I.na
    ge := I.ge
    own := fun p hp => by
      obtain ⟨p0, Tp, pT, pn, pl, pg, pq⟩ := I.own p hp
      refine ⟨p0, ?_⟩
      rw [upd_ne (I.dne hp)]
      by_cases e : p.1 = c.1
      · have ep : p = (c.1, a) := by
          have := lookI_mem I.nd hp
          rw [e, ha] at this
          exact Prod.ext e (Option.some.inj this).symm
        subst ep
        refine ⟨_, upd_same, nodup_put n', ?_, fun t => ?_, fun q hq => ?_⟩
        · have := len_add (L := Tb') (k := ((c.2.1 : Nat) : Int)) (v := c.2.2)
          rw [List.length_append, List.length_singleton]
          omega
        · rw [gets_add, g', sumAt_snoc]
          congr 1
          by_cases et : t = c.2.1
          · subst et; rw [if_pos rfl, if_pos ⟨rfl, rfl⟩]
          · rw [if_neg (by omega), if_neg (fun h => et h.2.symm)]
        · rcases mem_put hq with ⟨hq, _⟩ | hq
          · obtain ⟨c', h1, h2⟩ := q' q hq
            exact ⟨c', List.mem_append_left _ h1, h2⟩
          · exact ⟨c, List.mem_append_right _ (List.mem_singleton.mpr rfl), rfl, by rw [hq]⟩
      · have en : p.2.toNat ≠ a.toNat := by
          intro ea
          have g1 := I.ge p hp
          have g2 : 0 ≤ a := I.ge _ hm
          have e2 : p.2 = a := by omega
          obtain ⟨i, hi, ei⟩ := List.mem_iff_getElem.mp hp
          obtain ⟨j, hj, ej⟩ := List.mem_iff_getElem.mp hm
          have hij : i ≠ j := fun h => by
            subst h
            rw [ei] at ej
            exact e (by rw [ej])
          have nn := List.nodup_iff_pairwise_ne.mp I.na
          rcases Nat.lt_or_gt_of_ne hij with hlt | hlt
          · have := List.pairwise_iff_getElem.mp nn i j (by rw [List.length_map]; exact hi) (by rw [List.length_map]; exact hj) hlt
            rw [List.getElem_map, List.getElem_map, ei, ej] at this
            exact this e2
          · have := List.pairwise_iff_getElem.mp nn j i (by rw [List.length_map]; exact hj) (by rw [List.length_map]; exact hi) hlt
            rw [List.getElem_map, List.getElem_map, ei, ej] at this
            exact this e2.symm
        rw [upd_ne en]
        refine ⟨Tp, pT, pn, by rw [List.length_append]; omega, fun t => ?_, fun q hq => ?_⟩
        · rw [sumAt_snoc, if_neg (fun h => e h.1.symm), Int.add_zero]
          exact pg t
        · obtain ⟨c', h1, h2⟩ := pq q hq
          exact ⟨c', List.mem_append_left _ h1, h2⟩
    all := fun c' hc => by
      rcases List.mem_append.mp hc with h | h
      · exact I.all c' h
      · rw [List.mem_singleton.mp h]
        exact List.mem_map.mpr ⟨_, hm, rfl⟩
    from_ := fun p hp => by
      obtain ⟨c', h1, h2⟩ := I.from_ p hp
      exact ⟨c', List.mem_append_left _ h1, h2⟩
    ln := by rw [List.length_append]; have := I.ln; omega }
theorem sumAt_none {cs : List Chg} {y : Int} {t : Nat} (h : ∀ c ∈ cs, c.1 ≠ y) : sumAt cs y t = 0 := lsum_zero fun c hc => if_neg fun e => h c hc e.1
/-- one change more, its spot new -/
theorem SumInv.new {H0 H : Hp} {D : Addr} {cs : List Chg} {S : Tab} (I : SumInv H0 H D cs S) {c : Chg} {p : Addr} (ha : lookI S c.1 = none) (hp : H p = none) :
    SumInv H0 (upd (upd (upd H p (.dK [])) p (.dK (tabV V.int (addI [] ((c.2.1 : Nat) : Int) c.2.2)))) D (.dK (tabV vR (putI S c.1 (p : Int))))) D (cs ++ [c]) (putI S c.1 (p : Int)) := by
  have hk : c.1 ∉ S.map (·.1) := by
    intro hm
    obtain ⟨q, hq, e⟩ := List.mem_map.mp hm
    have := lookI_mem I.nd hq
    rw [e, ha] at this
    cases this
  have hpD : p ≠ D := fun e => by rw [e, I.d] at hp; cases hp
  have hp0 := none_back I.sm hp
  rw [upd_upd, hasI_snoc hk]
  have old : ∀ q ∈ S, q.2.toNat ≠ p := fun q hq e => by
    obtain ⟨_, Tb, hT, _⟩ := I.own q hq
    rw [e, hp] at hT
    cases hT
  exact {
    d := upd_same
    d0 := I.d0
    sm := same_put (same_put I.sm hp0) I.d0
    nd := by
      rw [List.map_append, List.nodup_append]
      refine ⟨I.nd, by simp, fun x hx y hy e => ?_⟩
      rw [List.map_singleton, List.mem_singleton] at hy
      exact hk (by rw [← hy, ← e]; exact hx)
    na := by
      rw [List.map_append, List.nodup_append]
      refine ⟨I.na, by simp, fun x hx y hy e => ?_⟩
      rw [List.map_singleton, List.mem_singleton] at hy
      obtain ⟨q, hq, eq⟩ := List.mem_map.mp hx
      exact old q hq (by rw [eq, e, hy]; exact Int.toNat_natCast p)
    ge := fun q hq => by
      rcases List.mem_append.mp hq with h | h
      · exact I.ge q h
      · rw [List.mem_singleton.mp h]
        exact Int.natCast_nonneg p
    own := fun q hq => by
      rcases List.mem_append.mp hq with h | h
      · obtain ⟨q0, Tq, qT, qn, ql, qg, qq⟩ := I.own q h
        refine ⟨q0, ?_⟩
        rw [upd_ne (I.dne h), upd_ne (old q h)]
        refine ⟨Tq, qT, qn, by rw [List.length_append]; omega, fun t => ?_, fun z hz => ?_⟩
        · rw [sumAt_snoc, if_neg (fun e => hk (by rw [e.1]; exact List.mem_map.mpr ⟨q, h, rfl⟩)), Int.add_zero]
          exact qg t
        · obtain ⟨c', h1, h2⟩ := qq z hz
          exact ⟨c', List.mem_append_left _ h1, h2⟩
      · rw [List.mem_singleton.mp h]
        dsimp only
        rw [Int.toNat_natCast, upd_ne hpD]
        refine ⟨hp0, _, upd_same, nodup_put (by simp), ?_, fun t => ?_, fun z hz => ?_⟩
        · have := len_add (L := []) (k := ((c.2.1 : Nat) : Int)) (v := c.2.2)
          rw [List.length_append, List.length_singleton]
          have h0 : ([] : Tab).length = 0 := rfl
          omega
        · rw [gets_add, sumAt_snoc, sumAt_none (fun c' hc e => hk (by rw [← e]; exact I.all c' hc))]
          show 0 + _ = 0 + _
          congr 1
          by_cases et : t = c.2.1
          · subst et; rw [if_pos rfl, if_pos ⟨rfl, rfl⟩]
          · rw [if_neg (by omega), if_neg (fun h => et h.2.symm)]
        · rcases mem_put hz with ⟨hz, _⟩ | hz
          · cases hz
          · exact ⟨c, List.mem_append_right _ (List.mem_singleton.mpr rfl), rfl, by rw [hz]⟩
    all := fun c' hc => by
      rw [List.map_append]
      rcases List.mem_append.mp hc with h | h
      · exact List.mem_append_left _ (I.all c' h)
      · rw [List.mem_singleton.mp h]
        exact List.mem_append_right _ (by simp)
    from_ := fun q hq => by
      rcases List.mem_append.mp hq with h | h
      · obtain ⟨c', h1, h2⟩ := I.from_ q h
        exact ⟨c', List.mem_append_left _ h1, h2⟩
      · rw [List.mem_singleton.mp h]
        exact ⟨c, List.mem_append_right _ (List.mem_singleton.mpr rfl), rfl⟩
    ln := by rw [List.length_append, List.length_append]; have := I.ln; simp; exact this }
end Nw
namespace Nw
open PySem PySem.Spec PyProof.Rows L2 Nd
/-- y = {k: v for ..} -/
theorem swD_true {kx vx : Expr} {gs : List Comprehension} {scope : Scope} {pos py : Pos} {y : Str} {l : Nat} {env : Env} (hk : env.scope.kind = .function) (hy : env.scope.names.lookup y = some .local) (hl : (py.line == pos.line) = true)
    (ha : (scope.names.any fun (n, k) => n == y && (k == .local || k == .cell)) = false) : swapsWith (.DictComp kx vx gs scope pos) (some (.Name y py)) l env = pure true := by
  have ky : env.kindOf y = some .local := hy
  have hb : env.blockKind = .function := by
    unfold Env.blockKind
    rw [hk]
    rfl
  unfold swapsWith
  simp only [hb, ky, ha, Expr.pos, hl]
  rfl
theorem gets_pick {ts : List Int} {Tb : Tab} (hn : ts.Nodup) (hm : ∀ t, t ∈ ts ↔ t ∈ Tb.map (·.1)) (x : Int) : gets ((ts.filter fun t => decide (gets Tb t ≠ 0)).map fun t => (t, gets Tb t)) x = gets Tb x := by
  have hk : (((ts.filter fun t => decide (gets Tb t ≠ 0)).map fun t => (t, gets Tb t)).map (·.1)).Nodup := by
    rw [List.map_map, show ((fun p : Int × Int => p.1) ∘ fun t : Int => (t, gets Tb t)) = id from rfl, List.map_id]
    exact hn.filter _
  by_cases h : x ∈ ts ∧ gets Tb x ≠ 0
  · have : (x, gets Tb x) ∈ ((ts.filter fun t => decide (gets Tb t ≠ 0)).map fun t => (t, gets Tb t)) := List.mem_map.mpr ⟨x, List.mem_filter.mpr ⟨h.1, decide_eq_true h.2⟩, rfl⟩
    have e := lookI_mem hk this
    show (lookI _ x).getD 0 = _
    rw [e]
    rfl
  · have z : gets Tb x = 0 := by
      by_cases h1 : x ∈ ts
      · exact Classical.byContradiction fun h2 => h ⟨h1, h2⟩
      · exact gets_out fun h2 => h1 ((hm x).mpr h2)
    rw [z]
    refine gets_out fun h2 => ?_
    obtain ⟨p, hp, ep⟩ := List.mem_map.mp h2
    obtain ⟨t, ht, et⟩ := List.mem_map.mp hp
    obtain ⟨h3, h4⟩ := List.mem_filter.mp ht
    have e : t = x := by rw [← ep, ← et]
    rw [e] at h3 h4
    exact h ⟨h3, of_decide_eq_true h4⟩
theorem ps_setDc {X : Cx} {i : Nat} {y : Str} {py : Pos} {kx vx tg iter : Expr} {ifs : List Expr} {scope : Scope} {own : List (Str × Nat)} {pos spos : Pos} {wi : TI} {g : TG} {tt : TT} {tk tv : TE} (hc : X.calm = true) (hN : X.N.Nodup) (hy : X.N[i]? = some y) (hyl : X.env.scope.names.lookup y = some .local)
    (hsw : swapsWith (.DictComp kx vx [⟨tg, iter, ifs, 0⟩] scope pos) (some (.Name y py)) spos.line X.env = pure true) (hi : PI X tg iter wi) (ok : BlkOk X.N X.env.scope scope own)
    (hg : ∀ (s : Shared) (H : Hp) (C : Addr) (cl : List (Str × Addr)) (fp : List Addr), PG (X.blk s H scope (compEnvC scope cl C X.env) fp) tg g) (ht : ∀ (s : Shared) (H : Hp) (C : Addr) (cl : List (Str × Addr)) (fp : List Addr), PTs (X.blk s H scope (compEnvC scope cl C X.env) fp) ifs tt)
    (hk : ∀ (s : Shared) (H : Hp) (C : Addr) (cl : List (Str × Addr)) (fp : List Addr), PE (X.blk s H scope (compEnvC scope cl C X.env) fp) kx tk)
    (he : ∀ (s : Shared) (H : Hp) (C : Addr) (cl : List (Str × Addr)) (fp : List Addr), PE (X.blk s H scope (compEnvC scope cl C X.env) fp) vx tv) (hs : ∀ x, foldedSetIterable iter X.env x = pure x := by intro _; rfl) :
    PS X (.Assign [.Name y py] (.DictComp kx vx [⟨tg, iter, ifs, 0⟩] scope pos) spos) (tAsg (tDc wi g tt tk tv (own.map (·.2))) (gName i)) := by
  refine ⟨fun pins s σ H D I h => ?_⟩
  rw [exec_Assign_Name_used _ _ _ _ hsw]
  refine wpAny_bind (wpAny_standAt (wpAny_bind ?_))
  show wpAny _ X.A (do let _ ← comprehension (.DictComp kx vx [⟨tg, iter, ifs, 0⟩] scope pos) scope X.env (firstIterPos [⟨tg, iter, ifs, 0⟩] pos) newDict false (eval iter X.env) (some (assign (.Name y py) X.env))) _ _ s
  have h : tDc wi g tt tk tv (own.map (·.2)) σ H (fun x H1 => gName i x σ H1 D.nx) := h
  refine wpAny_bind (thn (dc_core (Qf := fun _ s' => SP X pins D .next s') hc hN I hi ok hg ht hk he hs h fun L C s' m H' I' q hn f => ?_) fun _ s' hq => wpAny_pure (wpAny_pure hq))
  show wpAny _ _ (assign (.Name y py) X.env (.ref L)) _ _ _
  refine wpAny_assign_Name (store_ok2 (v := V.ref L) I' hN hy (.inl hyl) rfl (fun s2 I2 ⟨a, sb, ha⟩ => ⟨m, hn.sameBut sb ?_, fun h3 sb3 => ⟨_, H', I2.turned (t' := s2.toks) (fun b o hb e => (sb3.2 b hb).trans e) f.1 f.2.1 f.2.2.2.1 f.2.2.2.2.1 f.2.2.2.2.2, q⟩⟩) (.inr hyl))
  rcases ha with z | z
  · rw [z]; exact f.2.1
  · exact fun e => f.2.2.2.2.1 y a z e.symm
/-- a dict comprehension with a condition -/
theorem dc_srcF {α : Type} {J : It} {G : Hp → Prop} {ds : List α} {F : α → V → Hp → Prop} (S : Src J G ds F) {g : TG} {tt : TT} {tk tv : TE} {vs : List Nat} {σ : L2.St} {H : Hp} {D : Addr} {Qd : Hp → Prop} (hD : H D = none) (f : Int → V) (Tn : Nat → Tab) (h0 : Tn 0 = [])
    (hG : ∀ H', Same H H' → G H') (hl : ∀ i, i ≤ ds.length → (Tn i).length ≤ 1000000)
    (step : ∀ (i : Nat) (d : α) (x : V) (H1 : Hp) (Q2 : V → V → Hp → Prop) (Q0 : Hp → Prop), Same H H1 → ds[i]? = some d → F d x H1 → (∀ k v H4, Same H1 H4 → putI (Tn i) k v = Tn (i + 1) → Q2 (.int k) (f v) H4) → (∀ H3, Same H1 H3 → Tn i = Tn (i + 1) → Q0 H3) →
      g x (wipe σ vs) H1 fun σ2 H2 => wipe σ2 vs = wipe σ vs ∧ tt σ2 H2 fun b H3 => if b = true then tk σ2 H3 fun y H4 => tv σ2 H4 fun z H5 => Q2 y z H5 else Q0 H3)
    (k : ∀ H', Same H H' → H' D = some (.dK (tabV f (Tn ds.length))) → Qd H') :
    ∃ W : Nat → Nat → Hp → Prop, (∃ m, W 0 m (upd H D (.dK []))) ∧ ∀ i m H, W i m H →
      (J.stop i H ∧ Qd H) ∨ (J.go i H ∧ ∃ Nx : Hp → Prop, (∀ H', Nx H' → ∃ m', m' < m ∧ W (i + 1) m' H') ∧ ∀ x H', J.yld i H x H' → g x (wipe σ vs) H' fun σ2 H2 => wipe σ2 vs = wipe σ vs ∧ tt σ2 H2 fun b H3 =>
        if b = true then tk σ2 H3 fun y H4 => tv σ2 H4 fun z H5 => ∃ kvs k, y = kV k ∧ H5 D = some (.dK kvs) ∧ kvs.length < sizeLine ∧ Nx (upd H5 D (.dK (putK kvs k z))) else Nx H3) := by
  let Pv : Nat → Hp → Prop := fun i H' => Same H H' ∧ H' D = some (.dK (tabV f (Tn i)))
  refine ⟨fun i m H' => i ≤ ds.length ∧ m = ds.length - i ∧ Pv i H', ⟨_, Nat.zero_le _, rfl, same_new hD, by rw [upd_same, h0]; rfl⟩, ?_⟩
  rintro i m H' ⟨hi, rfl, s, hy⟩
  have g0 := hG H' s
  by_cases e : i = ds.length
  · subst e
    exact .inl ⟨S.stop H' g0, k H' s hy⟩
  · have hlt : i < ds.length := by omega
    refine .inr ⟨S.go i H' g0 hlt, Pv (i + 1), fun H2 h => ⟨ds.length - (i + 1), by omega, by omega, rfl, h⟩, fun x H1 y => ?_⟩
    have ed : ds[i]? = some ds[i] := List.getElem?_eq_getElem hlt
    obtain ⟨s1, f1⟩ := S.yld i _ x H' H1 g0 ed y
    refine step i _ x H1 _ (Pv (i + 1)) (s.trans s1) ed f1 (fun k v H4 s4 e4 => ?_) (fun H3 s3 e3 => ⟨(s.trans s1).trans s3, by rw [← e3]; exact s3 _ _ (s1 _ _ hy)⟩)
    have hD4 : H4 D = some (.dK (tabV f (Tn i))) := s4 _ _ (s1 _ _ hy)
    refine ⟨_, Sum.inl k, rfl, hD4, ?_, same_put ((s.trans s1).trans s4) hD, ?_⟩
    · rw [List.length_map]; exact Nat.lt_of_le_of_lt (hl i (by omega)) (by decide)
    · rw [upd_same, putK_tab, e4]
/-- the window of spots -/
def winI (b : Nat) : List Int := (List.range (2 * b + 1)).map fun (i : Nat) => (i : Int) - b
theorem win_len {b : Nat} {l : List Int} (hn : l.Nodup) (h : ∀ y ∈ l, -(b : Int) ≤ y ∧ y ≤ b) : l.length ≤ 2 * b + 1 := by
  have := nodup_len (m := winI b) hn fun y hy => by
    obtain ⟨h1, h2⟩ := h y hy
    exact List.mem_map.mpr ⟨(y + b).toNat, List.mem_range.mpr (by omega), by omega⟩
  unfold winI at this
  rw [List.length_map, List.length_range] at this
  exact this
theorem chTick_len {r : PRow} {last t : Nat} : (chTick r last t).length = 2 * (cntT (r.2.1 - t)).length := by
  unfold chTick
  induction cntT (r.2.1 - t) with
  | nil => rfl
  | cons f L ih =>
    rw [List.map_cons, List.flatten_cons, List.length_append, ih, List.length_cons]
    show 2 + _ = _
    omega
theorem flat_len {α β : Type} {f : α → List β} {m : Nat} : ∀ {l : List α}, (∀ a ∈ l, (f a).length ≤ m) → (l.map f).flatten.length ≤ m * l.length
  | [], _ => Nat.zero_le _
  | a :: l, h => by
    rw [List.map_cons, List.flatten_cons, List.length_append, List.length_cons, Nat.mul_succ]
    have := h a (List.mem_cons_self ..)
    have := flat_len (l := l) fun b hb => h b (List.mem_cons_of_mem _ hb)
    omega
theorem chRow_len {r : PRow} {last : Nat} (h : r.2.1 ≤ 6) : (chRow r last).length ≤ 48 := by
  have := flat_len (f := chTick r last) (m := 8) (l := List.range r.2.1) fun t _ => by
    rw [chTick_len]
    unfold cntT
    rw [List.length_map, List.length_range]
    omega
  rw [List.length_range] at this
  unfold chRow
  omega
theorem chAll_len {rows : List PRow} {last : Nat} (h : ∀ r ∈ rows, r.2.1 ≤ 6) : (chAll rows last).length ≤ 48 * rows.length :=
  flat_len fun r hr => chRow_len (h r hr)
/-- what all_changes tells: for each spot with a change its changes by ticks -/
structure ChAt (H : Hp) (E : Addr) (rows : List PRow) (last b : Nat) (Fd : Tab) : Prop where
  d : H E = some (.dK (tabV vR Fd))
  up : (Fd.map (·.1)).Pairwise (· < ·)
  own : ∀ p ∈ Fd, (-(b : Int) ≤ p.1 ∧ p.1 ≤ b) ∧ ∃ Tf : Tab, H p.2.toNat = some (.dK (tabV V.int Tf)) ∧ ∀ t : Nat, gets Tf t = chg rows last p.1 t
  out : ∀ y, y ∉ Fd.map (·.1) → ∀ t, chg rows last y t = 0
theorem ChAt.same {H H' : Hp} {E : Addr} {rows : List PRow} {last b : Nat} {Fd : Tab} (c : ChAt H E rows last b Fd) (s : Same H H') : ChAt H' E rows last b Fd where
  d := s _ _ c.d
  up := c.up
  own := fun p hp => by
    obtain ⟨a, Tf, h, r⟩ := c.own p hp
    exact ⟨a, Tf, s _ _ h, r⟩
  out := c.out
section
variable {P : Program} {w : World} {K : PySem.W.Frag} {mg : Str → Option Value} {base : Heap}
abbrev N_all_changes : List Str := ["look", "counts", "sums", "row", "spot", "tick", "changed", "own", "found"]
theorem sc_all_changes : FnScope N_all_changes ["look"] (defScope s_all_changes) := ⟨rfl, rfl, rfl, by decide +kernel, rfl, by decide +kernel, by decide +kernel⟩
def sp_allCh (K : PySem.W.Frag) : Sp := fun vs H Q _ => ∃ (v : V) (rows : List PRow) (last b : Nat) (c : Int), vs = [v] ∧ LookIs K H v rows last c ∧ last ≤ 6 ∧ b ≤ 31 ∧ (∀ r ∈ rows, -(b : Int) ≤ r.1 - r.2.1 ∧ r.1 + r.2.1 ≤ b) ∧
  ∀ E H' Fd, Same H H' → H E = none → ChAt H' E rows last b Fd → Q (.ref E) H'
theorem O_all_changes (T : Tx K mg) : Ok P w K mg base 2 (He.ga K "all_changes") ["look"] (sp_allCh K) := by
  have O_first_counts := O_first_counts (P := P) (w := w) (base := base) T
  have O_row_changes := O_row_changes (P := P) (w := w) (base := base) T
  refine Ok.mk T.f_all_changes sc_all_changes (fun vs H Q E h => ?_) (fun _ _ _ _ _ _ us hl => match us, hl with | [_], _ => rfl) (fun cdv A outer s H vs Q E hr h => ?_)
  · obtain ⟨v, rows, last, b, c, rfl, _⟩ := h; rfl
  · obtain ⟨v, rows, last, b, c, rfl, li, hl6, hb, hrb, k⟩ := h
    obtain ⟨⟨a, dx, tv, rfl, h1, h2⟩, ok, pw, hle, _⟩ := li
    have hu := Nat.lt_of_le_of_lt (Nat.add_le_add_left (by decide : 1 ≤ 64) _) hr.units
    obtain ⟨ta, xs, rfl, h3, h4, h5⟩ := tpL_inv h2
    have hlen := ok.len
    refine ⟨_, (pss_cons (ps_asg (pe_tup (pa_cons (pe_fn O_first_counts (hr.mono (by decide)) T.g_first_counts (pa_cons (pe_fld (pv 0) rfl) pa_nil)) (pa_cons pe_dnewK pa_nil))) (pg_tup rfl (pgs_cons (pg_name (i := 1) sc_all_changes.nd rfl (.inl rfl) (by first | exact .inl rfl | exact .inr rfl)) (pgs_cons (pg_name (i := 2) sc_all_changes.nd rfl (.inr rfl) (by first | exact .inl rfl | exact .inr rfl)) pgs_nil))))
      (pss_cons (ps_for PassesOwn.never rfl (pi_tup (pe_fld (pv 0) rfl)) (pg_name (i := 3) sc_all_changes.nd rfl (.inl rfl) (by first | exact .inl rfl | exact .inr rfl))
      (pss_one (ps_for PassesOwn.never rfl (pi_list (pe_fn O_row_changes (hr.mono (by decide)) T.g_row_changes (pa_cons (pv 3) (pa_cons (pv 1) (pa_cons (pe_fld (pv 0) rfl) pa_nil))))) (pg_tup rfl (pgs_cons (pg_name (i := 4) sc_all_changes.nd rfl (.inr rfl) (by first | exact .inl rfl | exact .inr rfl)) (pgs_cons (pg_name (i := 5) sc_all_changes.nd rfl (.inl rfl) (by first | exact .inl rfl | exact .inr rfl)) (pgs_cons (pg_name (i := 6) sc_all_changes.nd rfl (.inl rfl) (by first | exact .inl rfl | exact .inr rfl)) pgs_nil))))
      (pss_cons (ps_set (i := 7) sc_all_changes.nd rfl (.inl rfl) (pe_dget2 hu (pv 2) (pv 4) pe_dnewK ⟨rfl, rfl, rfl, rfl⟩))
      (pss_cons (ps_dput hu (pv 7) (pv 5) (pe_op op_add (pe_dget2 hu (pv 7) (pv 5) pe_int ⟨rfl, rfl, rfl, rfl⟩) (pv 6)) rfl)
      (pss_one (ps_dput hu (pv 2) (pv 4) (pv 7) rfl)))))))
      (pss_cons (ps_set (i := 8) sc_all_changes.nd rfl (.inl rfl) pe_dnewK)
      (pss_cons (ps_for PassesOwn.never rfl (pi_list (pe_callB (call_sortedDI rfl) (by rfl) T.z_sorted (by decide +kernel) (pa_cons (pv 2) pa_nil))) (pg_name (i := 4) sc_all_changes.nd rfl (.inr rfl) (by first | exact .inl rfl | exact .inr rfl))
      (pss_cons (ps_setDc (i := 7) (own := [("tick", 5)]) rfl sc_all_changes.nd rfl rfl (swD_true rfl rfl rfl (by decide +kernel)) (pi_list (pe_callB (call_sortedDI rfl) (by rfl) T.z_sorted (by decide +kernel) (pa_cons (pe_dget hu (pv 2) (pv 4) (fun _ _ => rfl)) pa_nil))) (blkOk_by (N := N_all_changes) (sc := defScope s_all_changes) (by decide +kernel)) (fun _ _ _ _ _ => (pg_name (i := 5) sc_all_changes.nd rfl (.inl rfl) (by first | exact .inl rfl | exact .inr rfl))) (fun _ _ _ _ _ => (pts_one (pt_cmpR op_ne (pe_dget hu (pe_dget hu (pv 2) (pv 4) (fun _ _ => rfl)) (pv 5) (fun _ _ => rfl)) pe_int (nomark _)))) (fun _ _ _ _ _ => (pv 5)) (fun _ _ _ _ _ => (pe_dget hu (pe_dget hu (pv 2) (pv 4) (fun _ _ => rfl)) (pv 5) (fun _ _ => rfl))))
      (pss_one (ps_if (pt_cmpR (op_neE hr.units0) (pv 7) pe_dnewK (nomark _))
      (pss_one (ps_dput hu (pv 8) (pv 4) (pv 7) rfl))
      pss_nil))))
      (pss_one (ps_ret (pv 8))))))), ?_⟩
    refine ⟨_, rfl, a, _, dx, _, _, rfl, h1, T.c_Look, T.a_Look_last, rfl, last, rfl, by omega, fun L H1 s1 hL D hD => ⟨(by show 2 ≤ sizeLine; decide), fun p0 hp0 => ⟨p0, _, rfl, SqT.of upd_same, rfl, _, _, rfl, _, _, rfl, rfl, ?_⟩⟩⟩
    have r6 : ∀ r ∈ rows, r.2.1 ≤ 6 := fun r hr => Nat.le_trans (hle r hr) hl6
    have cl := chAll_len (last := last) r6
    have hM : MW = 1000000 := rfl
    have I0 := (SumInv.start hD).same (same_new (o := .tup [.ref L, .ref D]) hp0)
    have h1a := s1 _ _ h1
    have sI : Same H _ := s1.trans I0.sm
    refine ⟨_, rfl, a, _, dx, _, _, rfl, sI _ _ h1, T.c_Look, T.a_Look_rows, rfl, ta, rfl, ⟨_, same_t sI h3⟩, ?_⟩
    refine for_src (Src.tp (K := K) (f := dR) (l := rows) (xs := xs)) (fun i σ H' => ∃ o3 o4 o5 o6 o7 o8 S, σ = [some (.ref a), some (.ref L), some (.ref D), o3, o4, o5, o6, o7, o8] ∧ SumInv H1 H' D (chAll (rows.take i) last) S) ?_ ?_ ?_ ?_
    · exact ⟨none, none, none, none, none, none, [], rfl, I0⟩
    · rintro i σ H' _ ⟨_, _, _, _, _, _, _, _, I⟩
      exact ⟨same_t (s1.trans I.sm) h3, h4.same (s1.trans I.sm)⟩
    · rintro i d x σ H2 H3 hi ⟨o3, o4, o5, o6, o7, o8, S, rfl, I⟩ s2 hx
      have hdm := List.mem_of_getElem? hi
      obtain ⟨_, _, bw, _⟩ := ok.bd d hdm
      have sx := (s1.trans I.sm).trans s2
      have ea : chAll (rows.take (i + 1)) last = chAll (rows.take i) last ++ chRow d last := by
        unfold chAll
        rw [List.take_succ, hi, List.map_append, List.flatten_append]
        simp
      have bnd : (chAll (rows.take (i + 1)) last).length ≤ 1000000 := by
        have := chAll_len (last := last) (rows := rows.take (i + 1)) fun r hr => r6 r (List.mem_of_mem_take hr)
        rw [List.length_take] at this
        omega
      rw [ea] at bnd
      refine ⟨_, rfl, _, rfl, _, rfl, a, _, dx, _, _, rfl, sx _ _ h1, T.c_Look, T.a_Look_last, rfl, _, L, d, last, last, rfl, hx, hL.same (I.sm.trans s2), hle d hdm, hle d hdm, hl6, bw, fun z H4 s4 lp => ?_⟩
      obtain ⟨F, ys, rfl, hF, hys⟩ := lp
      refine ⟨F, rfl, ⟨_, hF⟩, for_src (Src.lp (K := K) (f := dR) (l := chRow d last) (xs := ys)) (fun j σ H' => ∃ o4 o5 o6 o7 o8 S, σ = [some (.ref a), some (.ref L), some (.ref D), some x, o4, o5, o6, o7, o8] ∧ SumInv H1 H' D (chAll (rows.take i) last ++ (chRow d last).take j) S ∧ SqL K H' F ys ∧ TpAll K H' ys ((chRow d last).map dR)) ?_ ?_ ?_ ?_⟩
      · exact ⟨_, _, _, _, _, S, rfl, by rw [List.take_zero, List.append_nil]; exact I.same (s2.trans s4), hF, hys⟩
      · rintro j σ H' _ ⟨_, _, _, _, _, _, _, _, q1, q2⟩
        exact ⟨q1, q2⟩
      · rintro j c' y σ H5 H6 hj ⟨o4, o5, o6, o7, o8, S2, rfl, J0, q1, q2⟩ s6 hy
        obtain ⟨q, rfl, hq⟩ := tpI_inv hy
        have J := J0.same s6
        have q1' := s6.seq q1
        have q2' := q2.same s6
        have ec : chAll (rows.take i) last ++ (chRow d last).take (j + 1) = (chAll (rows.take i) last ++ (chRow d last).take j) ++ [c'] := by
          rw [List.take_succ, hj, List.append_assoc]; rfl
        have jl : (chAll (rows.take i) last ++ (chRow d last).take j).length ≤ 1000000 := by
          rw [List.length_append] at bnd ⊢
          rw [List.length_take]
          omega
        have sl : S2.length ≤ 1000000 := Nat.le_trans J.ln jl
        refine ⟨q, _, rfl, hq, rfl, _, _, rfl, _, _, rfl, _, _, rfl, rfl, ?_⟩
        refine ⟨_, rfl, D, rfl, isd_tab J.d, _, rfl, fun p hp => ⟨_, dg_tab ((same_new (o := .dK []) hp) _ _ J.d), ?_⟩⟩
        have Jp := J.same (same_new (o := .dK []) hp)
        have q1p := (same_new (o := .dK []) hp).seq q1'
        have q2p := q2'.same (same_new (o := .dK []) hp)
        cases e : lookI S2 c'.1 with
        | some a0 =>
          obtain ⟨_, Tb, hT, _, tl, _⟩ := Jp.own _ (lookI_in e)
          dsimp only at hT
          have hne := Jp.dne (lookI_in e)
          dsimp only at hne
          have hD3 : (upd (upd H6 p (.dK [])) a0.toNat (.dK (tabV V.int (putI Tb ((c'.2.1 : Nat) : Int) (gets Tb ((c'.2.1 : Nat) : Int) + c'.2.2))))) D = some (.dK (tabV vR S2)) := by rw [upd_ne (Ne.symm hne)]; exact Jp.d
          refine ⟨_, rfl, a0.toNat, rfl, isd_tab hT, _, rfl, _, dg_tab hT, _, rfl, _, _, getD_tab, rfl, _, rfl, _, rfl, a0.toNat, _, rfl, dp_tab (v := gets Tb ((c'.2.1 : Nat) : Int) + c'.2.2) hT (by omega), ?_⟩
          refine ⟨_, rfl, _, rfl, _, rfl, D, _, rfl, dp_tab (f := vR) (v := a0) hD3 sl, _, _, _, _, _, S2, rfl, ?_, ?_, ?_⟩
          · rw [ec]
            exact Jp.more e hT
          · exact seq_put (seq_put q1p hT) hD3
          · exact (q2p.stay (Stay.dK hT)).stay (Stay.dK hD3)
        | none =>
          have hT : (upd H6 p (.dK [])) p = some (.dK (tabV V.int [])) := upd_same
          have hpD : p ≠ D := fun e => by rw [e, J.d] at hp; cases hp
          have hD3 : (upd (upd H6 p (.dK [])) p (.dK (tabV V.int (putI [] ((c'.2.1 : Nat) : Int) (gets [] ((c'.2.1 : Nat) : Int) + c'.2.2))))) D = some (.dK (tabV vR S2)) := by rw [upd_ne (Ne.symm hpD)]; exact Jp.d
          refine ⟨_, rfl, p, rfl, isd_tab hT, _, rfl, _, dg_tab hT, _, rfl, _, _, getD_tab, rfl, _, rfl, _, rfl, p, _, rfl, dp_tab (v := gets [] ((c'.2.1 : Nat) : Int) + c'.2.2) hT (Nat.zero_le _), ?_⟩
          refine ⟨_, rfl, _, rfl, _, rfl, D, _, rfl, dp_tab (f := vR) (v := (p : Int)) hD3 sl, _, _, _, _, _, putI S2 c'.1 (p : Int), rfl, ?_, ?_, ?_⟩
          · rw [ec]
            exact J.new e hp
          · exact seq_put (seq_put q1p hT) hD3
          · exact (q2p.stay (Stay.dK hT)).stay (Stay.dK hD3)
      · rintro σ H' ⟨o4, o5, o6, o7, o8, S2, rfl, J, _, _⟩
        rw [List.take_length, ← ea] at J
        exact ⟨_, _, _, _, _, _, S2, rfl, J⟩
    · rintro σ H' ⟨o3, o4, o5, o6, o7, o8, S, rfl, I⟩
      rw [List.take_length] at I
      -- the second part: the changes that are left, spot by spot
      have hcs : ∀ c ∈ chAll rows last, -(b : Int) ≤ c.1 ∧ c.1 ≤ b ∧ c.2.1 < 6 := fun c hc => by
        obtain ⟨r, hr, g1, g2, g3, _⟩ := ch_in hc
        obtain ⟨e1, e2⟩ := hrb r hr
        have := r6 r hr
        exact ⟨by omega, by omega, by omega⟩
      have kb : ∀ y ∈ S.map (·.1), -(b : Int) ≤ y ∧ y ≤ b := fun y hy => by
        obtain ⟨p, hp, rfl⟩ := List.mem_map.mp hy
        obtain ⟨c, hc, ec⟩ := I.from_ p hp
        obtain ⟨g1, g2, _⟩ := hcs c hc
        exact ⟨by omega, by omega⟩
      have s64 : (S.map (·.1)).length < 64 := by
        have := win_len I.nd kb
        omega
      intro E hE
      have sE := same_new (o := .dK []) hE
      have IE := I.same sE
      refine ⟨_, rfl, D, _, S.map (·.1), rfl, .of IE.d, by rw [List.map_map, List.map_map]; rfl, s64, fun ys p pm pw hp => ⟨p, rfl, ⟨_, SqL.of upd_same⟩, ?_⟩⟩
      have I6 := IE.same (same_new (o := .lst (ys.map V.int)) hp)
      have hE6 := (same_new (o := .lst (ys.map V.int)) hp) _ _ (upd_same (H := H') (a := E) (o := .dK []))
      have hp6 : (upd (upd H' E (.dK [])) p (.lst (ys.map V.int))) p = some (.lst (ys.map V.int)) := upd_same
      have hE1 : H1 E = none := none_back I.sm hE
      have ynd : ys.Nodup := (pm.nodup_iff).mpr I.nd
      generalize (upd (upd H' E (.dK [])) p (.lst (ys.map V.int))) = H6 at I6 hE6 hp6 ⊢
      have hED : E ≠ D := fun e => by rw [e, I.d] at hE; cases hE
      have ownE : ∀ q ∈ S, q.2.toNat ≠ E := fun q hq e => by
        obtain ⟨_, Tb, hT, _⟩ := I.own q hq
        rw [e, hE] at hT
        cases hT
      refine for_src (Src.list (xs := ys.map V.int)) (fun i σ H' => ∃ o3 o4 o5 o6 o7 Fd, σ = [some (.ref a), some (.ref L), some (.ref D), o3, o4, o5, o6, o7, some (.ref E)] ∧ SumInv H1 H' D (chAll rows last) S ∧ H' p = some (.lst (ys.map V.int)) ∧
        H' E = some (.dK (tabV vR Fd)) ∧ (Fd.map (·.1)).Pairwise (· < ·) ∧ Fd.length ≤ i ∧ (∀ q ∈ Fd, q.1 ∈ ys.take i ∧ q.2.toNat ≠ E ∧ ∃ Tf : Tab, H' q.2.toNat = some (.dK (tabV V.int Tf)) ∧ ∀ t : Nat, gets Tf t = sumAt (chAll rows last) q.1 t) ∧ ∀ y ∈ ys.take i, y ∉ Fd.map (·.1) → ∀ t : Nat, sumAt (chAll rows last) y t = 0) ?_ ?_ ?_ ?_
      · exact ⟨_, _, _, _, _, [], rfl, I6, hp6, hE6, by simp, Nat.zero_le _, fun q hq => (by cases hq), fun y hy => (by simp at hy)⟩
      · rintro i σ H' _ ⟨_, _, _, _, _, _, _, _, g, _⟩
        exact SqL.of g
      · rintro i d x σ H7 H8 hi ⟨o3, o4, o5, o6, o7, Fd, rfl, J0, hp7, hE7, fup, fl, fown, fout⟩ s8 rfl
        rw [List.getElem?_map] at hi
        obtain ⟨y, hy, rfl⟩ := Option.map_eq_some_iff.mp hi
        have J := J0.same s8
        have hE8 := s8 _ _ hE7
        have ym : y ∈ S.map (·.1) := pm.mem_iff.mp (List.mem_of_getElem? hy)
        obtain ⟨pr, hpr, epr⟩ := List.mem_map.mp ym
        have hl := lookI_mem J.nd hpr
        rw [epr] at hl
        obtain ⟨_, Tb, hT, tn, tl, tg, tq⟩ := J.own pr hpr
        rw [epr] at tg tq
        have tb : ∀ z ∈ Tb.map (·.1), -(6 : Int) ≤ z ∧ z ≤ 6 := fun z hz => by
          obtain ⟨q, hq, rfl⟩ := List.mem_map.mp hz
          obtain ⟨c, hc, _, ec⟩ := tq q hq
          have := (hcs c hc).2.2
          exact ⟨by omega, by omega⟩
        have t64 : (Tb.map (·.1)).length < 64 := by
          have := win_len (b := 6) tn tb
          omega
        have dgS : ∀ {H' : Hp}, H' D = some (.dK (tabV vR S)) → DGet H' D (.int y) (some (vR pr.2)) := fun {H'} h => by
          have := dg_tab (k := y) h
          rw [hl] at this
          exact this
        have et : ys.take (i + 1) = ys.take i ++ [y] := by rw [List.take_succ, hy]; rfl
        have yi : i < ys.length := (List.getElem?_eq_some_iff.mp hy).1
        have yl : ys.length ≤ 100 := by
          have := pm.length_eq
          omega
        have ynew : ∀ z ∈ ys.take i, z < y := fun z hz => by
          obtain ⟨j, hj, ej⟩ := List.mem_iff_getElem.mp hz
          rw [List.length_take] at hj
          rw [List.getElem_take] at ej
          have e2 := (List.getElem?_eq_some_iff.mp hy).2
          have le := List.pairwise_iff_getElem.mp pw j i (by omega) yi (by omega)
          have ne := List.pairwise_iff_getElem.mp (List.nodup_iff_pairwise_ne.mp ynd) j i (by omega) yi (by omega)
          rw [ej, e2] at le ne
          omega
        refine ⟨_, rfl, _, rfl, D, _, rfl, dgS J.d, ?_⟩
        refine ⟨pr.2.toNat, _, Tb.map (·.1), rfl, .of hT, by rw [List.map_map, List.map_map]; rfl, t64, fun ts p2 pm2 pw2 hp2 => ?_⟩
        have s9 : Same H8 (upd H8 p2 (.lst (ts.map V.int))) := same_new hp2
        have tsn : ts.Nodup := (pm2.nodup_iff).mpr tn
        have tl64 : ts.length < 64 := by
          have := pm2.length_eq
          omega
        refine ⟨p2, rfl, ⟨_, SqL.of upd_same⟩, fun O hO => dc_srcF (Src.list (xs := ts.map V.int)) hO V.int (fun i => ((ts.take i).filter fun t => decide (gets Tb t ≠ 0)).map fun t => (t, gets Tb t)) rfl (fun H' s => s.seq (SqL.of upd_same)) (fun j hj => ?_) (fun j d x H9 Q2 Q0 s10 hj hx k1 k0 => ?_) (fun H9 s10 hO9 => ?_)⟩
        · rw [List.length_map]
          refine Nat.le_trans (List.length_filter_le _ _) ?_
          rw [List.length_take]
          omega
        · subst hx
          rw [List.getElem?_map] at hj
          obtain ⟨t, ht, rfl⟩ := Option.map_eq_some_iff.mp hj
          have hD9 := (s9.trans s10) _ _ J.d
          have hT9 := (s9.trans s10) _ _ hT
          have dgT : DGet H9 pr.2.toNat (.int t) (some (.int (gets Tb t))) := by
            have h1 := dg_tab (k := t) hT9
            obtain ⟨q, hq, eq⟩ := List.mem_map.mp (pm2.mem_iff.mp (List.mem_of_getElem? ht))
            have h2 := lookI_mem tn hq
            rw [eq] at h2
            unfold gets
            rw [h2] at h1 ⊢
            exact h1
          have ett : ts.take (j + 1) = ts.take j ++ [t] := by rw [List.take_succ, ht]; rfl
          refine ⟨rfl, _, rfl, _, rfl, D, _, rfl, dgS hD9, _, rfl, pr.2.toNat, _, rfl, dgT, rfl, _, rfl, ?_⟩
          by_cases g : gets Tb t = 0
          · rw [show (!decide (V.int (gets Tb t) = V.int 0)) = false by rw [g]; rfl]
            refine iteF (k0 _ (Same.refl _) ?_)
            rw [ett, List.filter_append, show [t].filter (fun t => decide (gets Tb t ≠ 0)) = [] by simp [g], List.append_nil]
          · rw [show (!decide (V.int (gets Tb t) = V.int 0)) = true by rw [decide_eq_false (fun e => g (V.int.inj e))]; rfl]
            refine iteT ⟨_, rfl, _, rfl, _, rfl, D, _, rfl, dgS hD9, _, rfl, pr.2.toNat, _, rfl, dgT, k1 t (gets Tb t) H9 (Same.refl _) ?_⟩
            rw [ett, List.filter_append, show [t].filter (fun t => decide (gets Tb t ≠ 0)) = [t] by simp [g], List.map_append]
            refine hasI_snoc (fun hm => ?_) _
            obtain ⟨q, hq, eq⟩ := List.mem_map.mp hm
            obtain ⟨t2, ht2, et2⟩ := List.mem_map.mp hq
            have h3 := (List.mem_filter.mp ht2).1
            have e4 : t2 = t := by rw [← eq, ← et2]
            rw [e4] at h3
            obtain ⟨m, hm2, em⟩ := List.mem_iff_getElem.mp h3
            rw [List.length_take] at hm2
            rw [List.getElem_take] at em
            obtain ⟨g1, g2⟩ := List.getElem?_eq_some_iff.mp ht
            have ne := List.pairwise_iff_getElem.mp (List.nodup_iff_pairwise_ne.mp tsn) m j (by omega) g1 (by omega)
            exact ne (em.trans g2.symm)
        · rw [List.length_map, List.take_length] at hO9
          have gp := gets_pick tsn (fun t => pm2.mem_iff)
          have sH := s8.trans (s9.trans s10)
          have J9 := J.same (s9.trans s10)
          have hE9 := (s9.trans s10) _ _ hE8
          have hOE : O ≠ E := fun e => by rw [e, s9 _ _ hE8] at hO; cases hO
          have tlen : ((ts.filter fun t => decide (gets Tb t ≠ 0)).map fun t => (t, gets Tb t)).length ≤ 1000 := by
            rw [List.length_map]
            exact Nat.le_trans (List.length_filter_le _ _) (by omega)
          generalize hTf : ((ts.filter fun t => decide (gets Tb t ≠ 0)).map fun t => (t, gets Tb t)) = Tf at hO9 gp tlen
          refine ⟨_, rfl, fun p3 hp3 => ⟨O, p3, _, rfl, rfl, (same_new (o := .dK []) hp3) _ _ hO9, upd_same, _, rfl, ?_⟩⟩
          have s11 : Same H9 (upd H9 p3 (.dK [])) := same_new hp3
          have J11 := J9.same s11
          have hE11 := s11 _ _ hE9
          have hO11 := s11 _ _ hO9
          have sx := sH.trans s11
          generalize upd H9 p3 (.dK []) = H11 at s11 J11 hE11 hO11 sx ⊢
          cases Tf with
          | nil =>
            refine iteF ⟨_, _, _, _, _, Fd, rfl, J11, sx _ _ hp7, hE11, fup, by omega, fun q hq => ?_, fun z hz hn t => ?_⟩
            · obtain ⟨f1, f2, Tf, f3, f4⟩ := fown q hq
              exact ⟨by rw [et]; exact List.mem_append_left _ f1, f2, Tf, sx _ _ f3, f4⟩
            · rw [et] at hz
              rcases List.mem_append.mp hz with hz | hz
              · exact fout z hz hn t
              · rw [List.mem_singleton.mp hz, ← tg t, ← gp]
                rfl
          | cons f0 Tr =>
            refine iteT ⟨_, rfl, _, rfl, _, rfl, E, _, rfl, dp_tab (f := vR) (v := (O : Int)) hE11 (by omega), ?_⟩
            have ynk : y ∉ Fd.map (·.1) := fun hm => by
              obtain ⟨q, hq, eq⟩ := List.mem_map.mp hm
              have := ynew _ (fown q hq).1
              omega
            rw [hasI_snoc ynk]
            have st : ∀ b u, b ≠ E → H11 b = some u → (upd H11 E (.dK (tabV vR (Fd ++ [(y, (O : Int))])))) b = some u := fun b u n e => by rw [upd_ne n]; exact e
            have hpE : p ≠ E := ne_of hp7 hE7 (by simp)
            refine ⟨_, _, _, _, _, Fd ++ [(y, (O : Int))], rfl, ?_, st _ _ hpE (sx _ _ hp7), upd_same, ?_, by rw [List.length_append, List.length_singleton]; omega, fun q hq => ?_, fun z hz hn t => ?_⟩
            · exact {
                d := st _ _ (Ne.symm hED) J11.d
                d0 := J11.d0
                sm := same_put J11.sm hE1
                nd := J11.nd
                na := J11.na
                ge := J11.ge
                own := fun q hq => by
                  obtain ⟨a1, Tq, a2, r⟩ := J11.own q hq
                  exact ⟨a1, Tq, st _ _ (ownE q hq) a2, r⟩
                all := J11.all
                from_ := J11.from_
                ln := J11.ln }
            · rw [List.map_append, List.pairwise_append]
              refine ⟨fup, by simp, fun z hz u hu => ?_⟩
              rw [List.map_singleton, List.mem_singleton] at hu
              obtain ⟨q, hq, eq⟩ := List.mem_map.mp hz
              rw [hu, ← eq]
              exact ynew _ (fown q hq).1
            · rcases List.mem_append.mp hq with hq | hq
              · obtain ⟨f1, f2, Tq, f3, f4⟩ := fown q hq
                exact ⟨by rw [et]; exact List.mem_append_left _ f1, f2, Tq, st _ _ f2 (sx _ _ f3), f4⟩
              · rw [List.mem_singleton.mp hq]
                dsimp only
                rw [Int.toNat_natCast]
                exact ⟨by rw [et]; exact List.mem_append_right _ (List.mem_singleton.mpr rfl), hOE, _, st _ _ hOE hO11, fun t => by rw [gp, tg]⟩
            · rw [et] at hz
              rw [List.map_append] at hn
              rcases List.mem_append.mp hz with hz | hz
              · exact fout z hz (fun h => hn (List.mem_append_left _ h)) t
              · exact absurd (List.mem_append_right _ (by rw [List.mem_singleton.mp hz]; simp)) hn
      · rintro σ H' ⟨o3, o4, o5, o6, o7, Fd, rfl, J, hp7, hE7, fup, fl, fown, fout⟩
        rw [List.length_map, List.take_length] at fown fout
        refine ⟨_, rfl, k E H' Fd (s1.trans J.sm) (none_back s1 hE1) ⟨hE7, fup, fun q hq => ?_, fun y hy t => ?_⟩⟩
        · obtain ⟨f1, _, Tf, f3, f4⟩ := fown q hq
          exact ⟨kb _ (pm.mem_iff.mp f1), Tf, f3, fun t => by rw [f4, sum_all]⟩
        · rw [← sum_all]
          by_cases hys : y ∈ ys
          · exact fout y hys hy t
          · exact sumAt_none fun c hc e => hys (pm.mem_iff.mpr (by rw [← e]; exact J.all c hc))
end
end Nw
namespace Nw
open PySem PySem.Spec PyProof.Rows L2 Nd
/-- the changes of one spot, as fractions of 2^last -/
def numsD (rows : List PRow) (last : Nat) (col y : Int) : List PyData := (List.range (cnt (par y col) last)).map fun j => dF (lp (chgs rows last col y j) (2 ^ last))
/-- what spots_changes gives: every spot with a change, upwards, with its changes -/
def SpotR (K : PySem.W.Frag) (H0 : Hp) (rows : List PRow) (last : Nat) (col : Int) (y : Int) (v : V) (H : Hp) : Prop := ∃ T Z ns, v = .ref T ∧ SqT K H T [.int y, .ref Z] ∧ H0 Z = none ∧ H Z = some (.lst ns) ∧ TpAll K H ns (numsD rows last col y)
theorem SpotR.same {K : PySem.W.Frag} {H0 H H' : Hp} {rows : List PRow} {last : Nat} {col y : Int} {v : V} (h : SpotR K H0 rows last col y v H) (s : Same H H') : SpotR K H0 rows last col y v H' := by
  obtain ⟨T, Z, ns, e, h1, h2, h3, h4⟩ := h
  exact ⟨T, Z, ns, e, same_t s h1, h2, s _ _ h3, h4.same s⟩
structure SpotsAt (K : PySem.W.Frag) (H0 H : Hp) (F : Addr) (rows : List PRow) (last b : Nat) (col : Int) (ss : List Int) : Prop where
  f0 : H0 F = none
  ls : ∃ ys, H F = some (.lst ys) ∧ Paired (fun (y : Int) (v : V) => SpotR K H0 rows last col y v H) ss ys
  up : ss.Pairwise (· < ·)
  bd : ∀ y ∈ ss, -(b : Int) ≤ y ∧ y ≤ b
  out : ∀ y, y ∉ ss → ∀ t, chg rows last y t = 0
section
variable {P : Program} {w : World} {K : PySem.W.Frag} {mg : Str → Option Value} {base : Heap}
abbrev N_change_in : List Str := ["look", "number"]
theorem sc_change_in : FnScope N_change_in ["look", "number"] (defScope s_change_in) := ⟨rfl, rfl, rfl, by decide +kernel, rfl, by decide +kernel, by decide +kernel⟩
def sp_chIn (K : PySem.W.Frag) : Sp := fun vs H Q _ => ∃ (v : V) (rows : List PRow) (last : Nat) (c n : Int), vs = [v, .int n] ∧ LookIs K H v rows last c ∧ last ≤ 6 ∧ ∀ z H', Same H H' → Fr K H' z n (2 ^ last) → Q z H'
theorem two_last {last : Nat} (h : last ≤ 6) : (0 : Int) < 2 ^ last ∧ (2 : Int) ^ last ≤ 64 := by
  refine ⟨Int.pow_pos (by decide), ?_⟩
  have := Nat.pow_le_pow_right (by decide : 0 < 2) h
  have h2 : ((2 ^ last : Nat) : Int) ≤ 64 := by omega
  rw [Int.natCast_pow] at h2
  exact h2
theorem O_change_in (T : Tx K mg) : Ok P w K mg base 2 (He.ga K "change_in") ["look", "number"] (sp_chIn K) := by
  have O_least_pair := O_least_pair (P := P) (w := w) (base := base) T
  refine Ok.mk T.f_change_in sc_change_in (fun vs H Q E h => ?_) (fun _ _ _ _ _ _ us hl => match us, hl with | [_, _], _ => rfl) (fun cdv A outer s H vs Q E hr h => ?_)
  · obtain ⟨v, rows, last, c, n, rfl, _⟩ := h; rfl
  · obtain ⟨v, rows, last, c, n, rfl, li, hl, k⟩ := h
    obtain ⟨⟨a, dx, tv, rfl, h1, h2⟩, _⟩ := li
    obtain ⟨p1, p2⟩ := two_last hl
    refine ⟨_, (pss_one (ps_ret (pe_fn O_least_pair (hr.mono (by decide)) T.g_least_pair (pa_cons (pv 1) (pa_cons (pe_op op_shl pe_int (pe_fld (pv 0) rfl)) pa_nil))))), ?_⟩
    have e : (1 : Int) * 2 ^ ((last : Nat) : Int).toNat = 2 ^ last := by rw [Int.one_mul, Int.toNat_natCast]
    refine ⟨_, rfl, _, rfl, a, _, dx, _, _, rfl, h1, T.c_Look, T.a_Look_last, rfl, _, _, rfl, rfl, ⟨by omega, by omega, by decide⟩, n, 2 ^ last, ?_, p1, by omega, fun z H' s f => k z H' s f⟩
    show [V.int n, V.int (1 * 2 ^ ((last : Nat) : Int).toNat)] = [V.int n, V.int (2 ^ last)]
    rw [e]
abbrev N_spots_changes : List Str := ["look", "found", "spot", "own", "ticks", "tick"]
theorem sc_spots_changes : FnScope N_spots_changes ["look"] (defScope s_spots_changes) := ⟨rfl, rfl, rfl, by decide +kernel, rfl, by decide +kernel, by decide +kernel⟩
def sp_spotsCh (K : PySem.W.Frag) : Sp := fun vs H Q _ => ∃ (v : V) (rows : List PRow) (last b : Nat) (c : Int), vs = [v] ∧ LookIs K H v rows last c ∧ last ≤ 6 ∧ b ≤ 31 ∧ (∀ r ∈ rows, -(b : Int) ≤ r.1 - r.2.1 ∧ r.1 + r.2.1 ≤ b) ∧ (c = 0 ∨ c = 1) ∧
  ∀ F H' ss, Same H H' → SpotsAt K H H' F rows last b c ss → Q (.ref F) H'
theorem O_spots_changes (T : Tx K mg) : Ok P w K mg base 3 (He.ga K "spots_changes") ["look"] (sp_spotsCh K) := by
  have O_all_changes := O_all_changes (P := P) (w := w) (base := base) T
  have O_change_in := O_change_in (P := P) (w := w) (base := base) T
  refine Ok.mk T.f_spots_changes sc_spots_changes (fun vs H Q E h => ?_) (fun _ _ _ _ _ _ us hl => match us, hl with | [_], _ => rfl) (fun cdv A outer s H vs Q E hr h => ?_)
  · obtain ⟨v, rows, last, b, c, rfl, _⟩ := h; rfl
  · obtain ⟨v, rows, last, b, c, rfl, li, hl6, hb, hrb, h01, k⟩ := h
    have hu := Nat.lt_of_le_of_lt (Nat.add_le_add_left (by decide : 1 ≤ 64) _) hr.units
    refine ⟨_, (pss_cons (ps_set (i := 1) sc_spots_changes.nd rfl (.inl rfl) (pe_lst pa_nil))
      (pss_cons (ps_for PassesOwn.never rfl (pi_items (pe_lockA (pe_fn O_all_changes (hr.mono (by decide)) T.g_all_changes (pa_cons (pv 0) pa_nil)))) (pg_tup rfl (pgs_cons (pg_name (i := 2) sc_spots_changes.nd rfl (.inl rfl) (by first | exact .inl rfl | exact .inr rfl)) (pgs_cons (pg_name (i := 3) sc_spots_changes.nd rfl (.inr rfl) (by first | exact .inl rfl | exact .inr rfl)) pgs_nil)))
      (pss_cons (ps_set (i := 4) sc_spots_changes.nd rfl (.inl rfl) (pe_callTy call_rng3 (by rfl) T.z_range (by decide +kernel) (pa_cons (pe_op op_mod (pe_op op_add (pv 2) (pe_fld (pv 0) rfl)) pe_int) (pa_cons (pe_fld (pv 0) rfl) (pa_cons pe_int pa_nil)))))
      (pss_one (ps_expr (pe_bm PySem.F.plainAttrs_list PySem.F.slot_list_append PySem.F.type_list_append mt_append (pv 1) (pa_cons (pe_tup (pa_cons (pv 2) (pa_cons (pe_lc (own := [("tick", 5)]) rfl sc_spots_changes.nd (pi_rngV (pv 4)) (blkOk_by (N := N_spots_changes) (sc := defScope s_spots_changes) (by decide +kernel)) (fun _ _ _ _ _ => (pg_name (i := 5) sc_spots_changes.nd rfl (.inl rfl) (by first | exact .inl rfl | exact .inr rfl))) (fun _ _ _ _ _ => pts_nil) (fun _ _ _ _ _ => (pe_fn O_change_in (hr.mono (by decide)) T.g_change_in (pa_cons (pv 0) (pa_cons (pe_dget2 hu (pv 3) (pv 5) pe_int ⟨rfl, rfl, rfl, rfl⟩) pa_nil))))) pa_nil))) pa_nil))))))
      (pss_one (ps_ret (pv 1))))), ?_⟩
    refine ⟨Nat.zero_le _, fun F hF => ?_⟩
    have sF : Same H (upd H F (.lst [])) := same_new hF
    have hFu : (upd H F (.lst [])) F = some (.lst []) := upd_same
    refine ⟨_, rfl, _, rows, last, b, c, rfl, li.same sF, hl6, hb, hrb, fun E H1 Fd s1 hE ch => ⟨E, .dK _, rfl, ch.d, trivial, fun od => ⟨E, od, _, rfl, upd_same, ?_⟩⟩⟩
    have hEF : E ≠ F := ne_of ch.d (s1 _ _ hFu) (by simp)
    have hE0 : H E = none := none_back sF hE
    have ownE : ∀ p ∈ Fd, p.2.toNat ≠ E := fun p hp e => by
      obtain ⟨_, Tf, hT, _⟩ := ch.own p hp
      rw [e, ch.d] at hT
      exact tab_ne hp (HO.dK.inj (Option.some.inj hT))
    have two := two_last hl6
    let Rl : Int → V → Hp → Prop := fun y v H2 => ∃ T Z ns, v = .ref T ∧ SqT K H2 T [.int y, .ref Z] ∧ (Z ≠ F ∧ H Z = none) ∧ H2 Z = some (.lst ns) ∧ TpAll K H2 ns (numsD rows last c y)
    have bd1 : ∀ p ∈ Fd, -(b : Int) ≤ p.1 ∧ p.1 ≤ b := fun p hp => (ch.own p hp).1
    have fl : Fd.length ≤ 1000 := by
      have upn : (Fd.map (·.1)).Nodup := by
        unfold List.Nodup
        exact ch.up.imp fun h e => by omega
      have := win_len (b := b) upn fun y hy => by
        obtain ⟨p, hp, rfl⟩ := List.mem_map.mp hy
        exact bd1 p hp
      rw [List.length_map] at this
      omega
    refine for_src (Src.itab (d := E) (o := od) (f := vR) (L := Fd)) (fun i σ H' => ∃ o2 o3 o4, σ = [some v, some (.ref F), o2, o3, o4, none] ∧ Same H H' ∧ H' E = some (.frz od (.dK (tabV vR Fd))) ∧ (∀ p ∈ Fd, ∃ Tf : Tab, H' p.2.toNat = some (.dK (tabV V.int Tf)) ∧ ∀ t : Nat, gets Tf t = chg rows last p.1 t) ∧
      ∃ ys, H' F = some (.lst ys) ∧ Paired (fun y v => Rl y v H') ((Fd.take i).map (·.1)) ys) ?_ ?_ ?_ ?_
    · refine ⟨none, none, none, rfl, same_put (sF.trans s1) hE0, upd_same, fun p hp => ?_, [], ?_, .nil⟩
      · obtain ⟨_, Tf, h1, h2⟩ := ch.own p hp
        exact ⟨Tf, by rw [upd_ne (ownE p hp)]; exact h1, h2⟩
      · rw [upd_ne (Ne.symm hEF)]
        exact s1 _ _ hFu
    · rintro i σ H' _ ⟨_, _, _, _, _, g, _⟩
      exact g
    · rintro i p x σ H2 H3 hi ⟨o2, o3, o4, rfl, s2, gE, gT, ys, gF, gp⟩ s3 ⟨T1, rfl, hT1⟩
      have pm := List.mem_of_getElem? hi
      obtain ⟨Tf, hT, hg⟩ := gT p pm
      have s23 := s2.trans s3
      have li3 := li.same s23
      have li3' := li3
      obtain ⟨⟨a, dx, tv, rfl, h1, h2⟩, _⟩ := li3
      have hp01 := par_lt p.1 c
      have epar : ((par p.1 c : Nat) : Int) = (p.1 + c) % 2 := by unfold par; omega
      obtain ⟨b1, b2⟩ := bd1 p pm
      have rg : RgC ((p.1 + c) % 2) ((last : Nat) : Int) 2 (cnt (par p.1 c) last) := rgc2 (by omega) (by omega) (by unfold Nd.cnt; split <;> omega)
      refine ⟨T1, _, rfl, SqT.of hT1, rfl, _, _, rfl, _, _, rfl, rfl, ?_⟩
      refine ⟨_, rfl, _, rfl, a, _, dx, _, _, rfl, h1, T.c_Look, T.a_Look_colour, rfl, _, _, rfl, rfl, _, _, rfl, rfl, (by show (0 : Int) < 2; decide), _, rfl, a, _, dx, _, _, rfl, h1, T.c_Look, T.a_Look_last, rfl, _, _, _, _, rfl, rg, fun q hq => ?_⟩
      have s4 : Same H3 (upd H3 q (rngO q ((p.1 + c) % 2) last 2)) := same_new hq
      have hq4 : (upd H3 q (rngO q ((p.1 + c) % 2) last 2)) q = some (rngO q ((p.1 + c) % 2) last 2) := upd_same
      have gF4 := s4 _ _ (s3 _ _ gF)
      generalize upd H3 q (rngO q ((p.1 + c) % 2) last 2) = H4 at s4 hq4 gF4 ⊢
      have hT4 := s4 _ _ (s3 _ _ hT)
      refine ⟨_, rfl, ty_list gF4, _, rfl, _, rfl, q, _, _, _, _, rfl, hq4, rg, fun Z hZ => lc_src (Src.rangeC (lo := (p.1 + c) % 2) (c := 2) (n := cnt (par p.1 c) last)) (K := K) hZ (fun j y H => Tp K H y (dF (lp (chgs rows last c p.1 j) (2 ^ last)))) (fun _ => true) (fun _ _ => trivial) (fun _ _ _ _ s h => Tp.stay s h) (by rw [List.length_range]; unfold Nd.cnt; omega) (fun j0 j x H5 Q1 Q0 s5 hj hx k1 _ => ?_) (fun H5 ns s5 hZ5 hp5 => ?_)⟩
      · subst hx
        obtain ⟨hj1, rfl⟩ := range_get hj
        have hT5 := s5 _ _ hT4
        have et : (p.1 + c) % 2 + (j : Int) * 2 = ((par p.1 c + 2 * j : Nat) : Int) := by omega
        refine ⟨rfl, yes_ ⟨_, rfl, _, rfl, p.2.toNat, rfl, isd_tab hT5, _, rfl, _, dg_tab hT5, ?_⟩⟩
        rw [getD_tab, et, hg]
        exact ⟨_, rows, last, c, _, rfl, li3'.same (s4.trans s5), hl6, fun z H6 s6 f => k1 rfl _ _ s6 f⟩
      · rw [List.filter_eq_self.mpr (by simp)] at hp5
        have tz := paired_tp (f := fun (j : Nat) => dF (lp (chgs rows last c p.1 j) (2 ^ last))) hp5
        refine ⟨(by show 2 ≤ sizeLine; decide), fun T2 hT2 => ?_⟩
        have s6 : Same H5 (upd H5 T2 (.tup [.int p.1, .ref Z])) := same_new hT2
        have gF6 := s6 _ _ (s5 _ _ gF4)
        have s36 := s4.trans (s5.trans s6)
        have hZF : Z ≠ F := fun e => by rw [e, gF4] at hZ; cases hZ
        have yl : ys.length ≤ 1000 := by
          have := paired_len gp
          rw [List.length_map, List.length_take] at this
          omega
        refine ⟨F, ys, _, rfl, rfl, gF6, Nat.lt_of_le_of_lt yl (by decide), ?_⟩
        have st := Stay.lst (K := K) (o := .lst (ys ++ [.ref T2])) gF6
        have mv : ∀ y v, Rl y v H2 → Rl y v (upd (upd H5 T2 (.tup [.int p.1, .ref Z])) F (.lst (ys ++ [.ref T2]))) := by
          rintro y v ⟨T3, Z3, n3, e, q1, q2, q3, q4⟩
          refine ⟨T3, Z3, n3, e, st.1 _ _ (same_t (s3.trans s36) q1), q2, by rw [upd_ne q2.1]; exact (s3.trans s36) _ _ q3, (q4.same (s3.trans s36)).stay st⟩
        refine ⟨_, _, _, rfl, same_put (s23.trans s36) hF, ?_, fun p' hp' => ?_, _, upd_same, ?_⟩
        · rw [upd_ne hEF]
          exact (s3.trans s36) _ _ gE
        · obtain ⟨Tf', q1, q2⟩ := gT p' hp'
          refine ⟨Tf', ?_, q2⟩
          rw [upd_ne (ne_of q1 gF (by simp))]
          exact (s3.trans s36) _ _ q1
        · rw [List.take_succ, hi, List.map_append]
          refine Paired.snoc (L2.Paired.mapP gp mv) ⟨T2, Z, ns, rfl, st.1 _ _ (SqT.of upd_same), ⟨hZF, none_back (s23.trans s4) hZ⟩, ?_, (tz.same s6).stay st⟩
          rw [upd_ne hZF]
          exact s6 _ _ hZ5
    · rintro σ H' ⟨o2, o3, o4, rfl, s2, gE, gT, ys, gF, gp⟩
      rw [List.take_length] at gp
      refine ⟨_, rfl, k F H' (Fd.map (·.1)) s2 ⟨hF, ⟨ys, gF, L2.Paired.mapP gp fun y v ⟨T3, Z3, n3, e, q1, q2, q3, q4⟩ => ⟨T3, Z3, n3, e, q1, q2.2, q3, q4⟩⟩, ch.up, fun y hy => ?_, ch.out⟩⟩
      obtain ⟨p, hp, rfl⟩ := List.mem_map.mp hy
      exact bd1 p hp
end
end Nw
namespace Nw
open PySem PySem.Spec PyProof.Rows L2 Nd
/-- a list whose items are as R says -/
theorem Src.pl {α : Type} {K : PySem.W.Frag} {a : Addr} {ys : List V} {ds : List α} {R : α → V → Hp → Prop} : Src (Itl K a) (fun H => SqL K H a ys ∧ Paired (fun d y => R d y H) ds ys) ds R where
  go := fun i H h hi => by
    have := paired_len h.2
    exact ⟨ys, ys[i]'(by omega), h.1, List.getElem?_eq_getElem _⟩
  stop := fun H h => ⟨ys, h.1, by rw [paired_len h.2]; exact Nat.le_refl _⟩
  yld := fun i d x H H' h e y => by
    obtain ⟨v, h1, h2⟩ := L2.paired_get h.2 e
    have e2 := y.2 _ h.1
    rw [h1] at e2
    cases e2
    exact ⟨same_eq y.1, by rw [y.1]; exact h2⟩
theorem sumL_go {α : Type} {f : α → Int} : ∀ {l : List α} {z : Int}, (l.map f).foldl (· + ·) z = z + lsum f l
  | [], z => by simp [lsum]
  | a :: l, z => by
    rw [List.map_cons, List.foldl_cons, sumL_go]
    show z + f a + lsum f l = z + (f a + lsum f l)
    omega
theorem sumL_map {α : Type} {f : α → Int} {l : List α} : sumL (l.map f) = lsum f l := by
  unfold sumL
  rw [sumL_go, Int.zero_add]
/-- the wishes: a dict of True by spot and tick -/
def wKey (y : Int) (t : Nat) : List Key := [Sum.inl y, Sum.inl ((t : Nat) : Int)]
def WishAt (H : Hp) (W : Addr) (rows : List PRow) (last : Nat) (c : Int) : Prop := ∃ wk, H W = some (.dT wk) ∧ ∀ y (t : Nat), (valV wk (wKey y t)).isSome = Wish rows last c y t
theorem WishAt.same {H H' : Hp} {W : Addr} {rows : List PRow} {last : Nat} {c : Int} (h : WishAt H W rows last c) (s : Same H H') : WishAt H' W rows last c := by
  obtain ⟨wk, h1, h2⟩ := h
  exact ⟨wk, s _ _ h1, h2⟩
theorem nat_get {i : Nat} {x : Int} {p : List Nat} (h : (p.map fun (j : Nat) => (j : Int))[i]? = some x) : ∃ j, p[i]? = some j ∧ x = (j : Int) := by
  rw [List.getElem?_map] at h
  obtain ⟨j, h1, rfl⟩ := Option.map_eq_some_iff.mp h
  exact ⟨j, h1, rfl⟩
section
variable {P : Program} {w : World} {K : PySem.W.Frag} {mg : Str → Option Value} {base : Heap}
abbrev N_reach_in : List Str := ["look", "_", "numbers"]
theorem sc_reach_in : FnScope N_reach_in ["look"] (defScope s_reach_in) := ⟨rfl, rfl, rfl, by decide +kernel, rfl, by decide +kernel, by decide +kernel⟩
def sp_reach (K : PySem.W.Frag) : Sp := fun vs H Q _ => ∃ (v : V) (rows : List PRow) (last b : Nat) (c : Int), vs = [v] ∧ LookIs K H v rows last c ∧ last ≤ 6 ∧ b ≤ 31 ∧ (∀ r ∈ rows, -(b : Int) ≤ r.1 - r.2.1 ∧ r.1 + r.2.1 ≤ b) ∧ (c = 0 ∨ c = 1) ∧
  ∀ z H', Same H H' → Fr K H' z (Reach rows last c) (2 ^ last) → Q z H'
theorem O_reach_in (T : Tx K mg) : Ok P w K mg base 5 (He.ga K "reach_in") ["look"] (sp_reach K) := by
  have O_spots_changes := O_spots_changes (P := P) (w := w) (base := base) T
  have O_total_of := O_total_of (P := P) (w := w) (base := base) T
  have O_best_turns := O_best_turns (P := P) (w := w) (base := base) T
  refine Ok.mk T.f_reach_in sc_reach_in (fun vs H Q E h => ?_) (fun _ _ _ _ _ _ us hl => match us, hl with | [_], _ => rfl) (fun cdv A outer s H vs Q E hr h => ?_)
  · obtain ⟨v, rows, last, b, c, rfl, _⟩ := h; rfl
  · obtain ⟨v, rows, last, b, c, rfl, li, hl6, hb, hrb, h01, k⟩ := h
    have two := two_last hl6
    refine ⟨_, (pss_one (ps_ret (pe_fn O_total_of (hr.mono (by decide)) T.g_total_of (pa_cons (pe_lc (own := [("_", 1), ("numbers", 2)]) rfl sc_reach_in.nd (pi_list (pe_fn O_spots_changes (hr.mono (by decide)) T.g_spots_changes (pa_cons (pv 0) pa_nil))) (blkOk_by (N := N_reach_in) (sc := defScope s_reach_in) (by decide +kernel)) (fun _ _ _ _ _ => (pg_tupK (K := K) (n := 2) rfl rfl (pgs_cons (pg_name (i := 1) sc_reach_in.nd rfl (.inl rfl) (by first | exact .inl rfl | exact .inr rfl)) (pgs_cons (pg_name (i := 2) sc_reach_in.nd rfl (.inl rfl) (by first | exact .inl rfl | exact .inr rfl)) pgs_nil)))) (fun _ _ _ _ _ => pts_nil) (fun _ _ _ _ _ => (pe_ix (ix_tupK (K := K) rfl) (pe_fn O_best_turns (hr.mono (by decide)) T.g_best_turns (pa_cons (pv 2) pa_nil)) pe_int (fun _ _ => rfl)))) pa_nil)))), ?_⟩
    refine ⟨_, rfl, v, rows, last, b, c, rfl, li, hl6, hb, hrb, h01, fun F H1 ss s1 sp => ?_⟩
    obtain ⟨_, ⟨ys, hF, hp⟩, up, bd, out⟩ := sp
    have un : ss.Nodup := by
      unfold List.Nodup
      exact up.imp fun h e => by omega
    have sl : ss.length ≤ 1000 := by
      have := win_len un bd
      omega
    refine ⟨F, rfl, ⟨_, SqL.of hF⟩, fun D hD => lc_src (Src.pl (K := K) (ds := ss) (ys := ys) (R := SpotR K H rows last c)) (K := K) hD (fun y z H => Tp K H z (dF (lp (bestAt rows last c y) (2 ^ last)))) (fun _ => true)
      (fun H' s => ⟨s.seq (SqL.of hF), L2.Paired.mapP hp fun y v h => h.same s⟩) (fun _ _ _ _ s h => Tp.stay s h) (by omega) (fun i y x H2 Q1 Q0 s2 hi hx k1 _ => ?_) (fun H2 zs s2 hD2 hp2 => ?_)⟩
    · obtain ⟨T1, Z, ns, rfl, h3, _, h4, h5'⟩ := hx
      refine ⟨T1, _, rfl, h3, rfl, _, _, rfl, _, _, rfl, rfl, rfl, yes_ ⟨_, rfl, .ref Z, chgs rows last c y, Nd.cnt (par y c) last, 2 ^ last, rfl, ⟨Z, ns, rfl, SqL.of h4, h5'⟩, ?_, two.1, by omega, fun r H3 s3 t3 => ?_⟩⟩
      · unfold Nd.cnt; omega
      · obtain ⟨q, qs, rfl, h5, h6⟩ := t3.tup_inv
        cases h6 with
        | cons h7 h8 =>
          exact ⟨q, _, 0, _, rfl, rfl, h5, atI_0, k1 rfl _ _ s3 h7⟩
    · rw [List.filter_eq_self.mpr (by simp)] at hp2
      have tz := paired_tp (f := fun y => dF (lp (bestAt rows last c y) (2 ^ last))) hp2
      refine ⟨_, ss.map (bestAt rows last c), 2 ^ last, rfl, ⟨D, zs, rfl, SqL.of hD2, by rw [List.map_map]; exact tz⟩, two.1, by omega, fun z H3 s3 f => ?_⟩
      rw [sumL_map, reach_list un (fun y hy => by have := bd y hy; omega) out] at f
      exact k z H3 ((s1.trans s2).trans s3) f
abbrev N_reach_of : List Str := ["look"]
theorem sc_reach_of : FnScope N_reach_of ["look"] (defScope s_reach_of) := ⟨rfl, rfl, rfl, by decide +kernel, rfl, by decide +kernel, by decide +kernel⟩
theorem O_reach_of (T : Tx K mg) : Ok P w K mg base 6 (He.ga K "reach_of") ["look"] (sp_reach K) := by
  have O_reach_in := O_reach_in (P := P) (w := w) (base := base) T
  have O_need_lookD := O_need_lookD (P := P) (w := w) (base := base) T
  refine Ok.mk T.f_reach_of sc_reach_of (fun vs H Q E h => ?_) (fun _ _ _ _ _ _ us hl => match us, hl with | [_], _ => rfl) (fun cdv A outer s H vs Q E hr h => ?_)
  · obtain ⟨v, rows, last, b, c, rfl, _⟩ := h; rfl
  · obtain ⟨v, rows, last, b, c, rfl, li, r⟩ := h
    refine ⟨_, (pss_cons (ps_expr (pe_fnD O_need_lookD (hr.mono (by decide)) T.g_need_look (pa_cons (pv 0) pa_nil)))
      (pss_one (ps_ret (pe_fn O_reach_in (hr.mono (by decide)) T.g_reach_in (pa_cons (pv 0) pa_nil))))), ?_⟩
    exact ⟨_, rfl, _, _, rows, last, c, rfl, li, _, rfl, v, rows, last, b, c, rfl, li, r⟩
abbrev N_added_wish : List Str := ["wish", "look", "spot", "picks", "at"]
theorem sc_added_wish : FnScope N_added_wish ["wish", "look", "spot", "picks"] (defScope s_added_wish) := ⟨rfl, rfl, rfl, by decide +kernel, rfl, by decide +kernel, by decide +kernel⟩
def sp_added (K : PySem.W.Frag) : Sp := fun vs H Q _ => ∃ (W : Addr) (u v : V) (y c : Int) (p : List Nat) (wk : List (List Key × V)) (rows : List PRow) (last : Nat), vs = [.ref W, u, .int y, v] ∧ H W = some (.dT wk) ∧ LookIs K H u rows last c ∧ Tp K H v (dN p) ∧ wk.length + p.length ≤ 1000000 ∧
  ∀ H' wk', SameX W H H' → H' W = some (.dT wk') → wk'.length ≤ wk.length + p.length → (∀ k, (valV wk' k).isSome = true ↔ (valV wk k).isSome = true ∨ k ∈ p.map fun j => wKey y (par y c + 2 * j)) → Q .non H'
theorem O_added_wish (T : Tx K mg) : Ok P w K mg base 1 (He.ga K "added_wish") ["wish", "look", "spot", "picks"] (sp_added K) := by
  refine Ok.mk T.f_added_wish sc_added_wish (fun vs H Q E h => ?_) (fun _ _ _ _ _ _ us hl => match us, hl with | [_, _, _, _], _ => rfl) (fun cdv A outer s H vs Q E hr h => ?_)
  · obtain ⟨W, u, v, y, c, p, wk, rows, last, rfl, _⟩ := h; rfl
  · obtain ⟨W, u, v, y, c, p, wk, rows, last, rfl, hW, li, hv, hl, k⟩ := h
    have hu := Nat.lt_of_le_of_lt (Nat.add_le_add_left (by decide : 1 ≤ 64) _) hr.units
    obtain ⟨q, rfl, hq⟩ := tpI_inv hv
    obtain ⟨⟨a, dx, tv, rfl, h1, h2⟩, _⟩ := li
    refine ⟨_, (pss_one (ps_for PassesOwn.never rfl (pi_tup (pv 3)) (pg_name (i := 4) sc_added_wish.nd rfl (.inl rfl) (by first | exact .inl rfl | exact .inr rfl))
      (pss_one (ps_dput hu (pv 0) (pe_tup (pa_cons (pv 2) (pa_cons (pe_op op_add (pe_op op_mod (pe_op op_add (pv 2) (pe_fld (pv 1) rfl)) pe_int) (pe_op op_mul pe_int (pv 4))) pa_nil))) pe_bl rfl)))), ?_⟩
    refine ⟨_, rfl, q, rfl, ⟨_, hq⟩, ?_⟩
    have epar : ((par y c : Nat) : Int) = (y + c) % 2 := by unfold par; omega
    have tW : noTup (H W) = true := by rw [hW]; rfl
    refine for_src (Src.tup (K := K) (xs := (p.map fun (j : Nat) => (j : Int)).map V.int)) (fun i σ H' => ∃ o4 wk', σ = [some (.ref W), some (.ref a), some (.int y), some (.ref q), o4] ∧ SameX W H H' ∧ SqT K H' q ((p.map fun (j : Nat) => (j : Int)).map V.int) ∧ H' W = some (.dT wk') ∧ wk'.length ≤ wk.length + i ∧
      ∀ k, (valV wk' k).isSome = true ↔ (valV wk k).isSome = true ∨ k ∈ (p.take i).map fun j => wKey y (par y c + 2 * j)) ?_ ?_ ?_ ?_
    · exact ⟨_, wk, rfl, SameX.refl, hq, hW, by omega, fun k => by simp⟩
    · rintro i σ H' _ ⟨_, _, _, _, g, _⟩
      exact g
    · rintro i d x σ H2 H3 hi ⟨o4, wk', rfl, sx, gq, gW, gl, gk⟩ s2 rfl
      rw [List.getElem?_map] at hi
      obtain ⟨n, hn, rfl⟩ := Option.map_eq_some_iff.mp hi
      obtain ⟨j, hj, rfl⟩ := nat_get hn
      have gW3 := s2 _ _ gW
      have haW : a ≠ W := ne_of h1 hW (by simp)
      have h3 := s2 _ _ (sx _ _ haW h1)
      have hil := (List.getElem?_eq_some_iff.mp hj).1
      refine ⟨_, rfl, _, rfl, _, rfl, _, rfl, a, _, dx, _, _, rfl, h3, T.c_Look, T.a_Look_colour, rfl, _, _, rfl, rfl, _, _, rfl, rfl, (by show (0 : Int) < 2; decide), _, rfl, _, _, rfl, rfl, .inl (by decide), _, _, rfl, rfl, (by show 2 ≤ sizeLine; decide), fun r hr2 => ?_⟩
      have s3 : Same H3 (upd H3 r (.tup [.int y, .int ((y + c) % 2 + 2 * (j : Int))])) := same_new hr2
      have gW4 := s3 _ _ gW3
      have er : (upd H3 r (.tup [.int y, .int ((y + c) % 2 + 2 * (j : Int))])) r = some (.tup ((wKey y (par y c + 2 * j)).map kV)) := by
        rw [upd_same]
        show some (HO.tup _) = some (HO.tup [V.int y, V.int ((par y c + 2 * j : Nat) : Int)])
        rw [show (y + c) % 2 + 2 * (j : Int) = ((par y c + 2 * j : Nat) : Int) by omega]
      refine ⟨W, _, rfl, DPut.t gW4 er (Nat.lt_of_le_of_lt (by omega : _ ≤ 1000000) (by decide)), _, _, rfl, ?_, ?_, upd_same, ?_, fun k => ?_⟩
      · exact (sx.trans (SameX.of (s2.trans s3))).trans SameX.upd
      · exact (Stay.dT gW4).1 _ _ (same_t (s2.trans s3) gq)
      · have := length_putK wk' (wKey y (par y c + 2 * j)) (.bl true)
        omega
      · rw [valV_put, List.take_succ, hj, List.map_append]
        by_cases e : k = wKey y (par y c + 2 * j)
        · rw [if_pos e]
          simp [e]
        · rw [if_neg e, gk, List.mem_append]
          simp [e]
    · rintro σ H' ⟨o4, wk', rfl, sx, gq, gW, gl, gk⟩
      rw [List.length_map, List.length_map] at gl gk
      rw [List.take_length] at gk
      exact k H' wk' sx gW gl gk
end
end Nw
namespace Nw
open PySem PySem.Spec PyProof.Rows L2 Nd
theorem SameX.stayN {K : PySem.W.Frag} {a : Addr} {H H' : Hp} (s : SameX a H H') (h : noTup (H a) = true) : Stay K H H' := by
  refine ⟨fun b xs q => ?_, fun b xs q => s b _ (fun e => by rw [e] at q; rw [q] at h; cases h) q⟩
  rcases q with (q | ⟨ob, q⟩) | q
  · exact .inl (.inl (s b _ (fun e => by rw [e] at q; rw [q] at h; cases h) q))
  · exact .inl (.inr ⟨ob, s b _ (fun e => by rw [e] at q; rw [q] at h; cases h) q⟩)
  · exact .inr q
section
variable {P : Program} {w : World} {K : PySem.W.Frag} {mg : Str → Option Value} {base : Heap}
abbrev N_free_wish : List Str := ["look", "wish", "lefts", "spot", "numbers", "_", "picks", "sign"]
theorem sc_free_wish : FnScope N_free_wish ["look"] (defScope s_free_wish) := ⟨rfl, rfl, rfl, by decide +kernel, rfl, by decide +kernel, by decide +kernel⟩
def sp_free (K : PySem.W.Frag) : Sp := fun vs H Q _ => ∃ (v : V) (rows : List PRow) (last b : Nat) (c : Int), vs = [v] ∧ LookIs K H v rows last c ∧ last ≤ 6 ∧ b ≤ 31 ∧ (∀ r ∈ rows, -(b : Int) ≤ r.1 - r.2.1 ∧ r.1 + r.2.1 ≤ b) ∧ (c = 0 ∨ c = 1) ∧
  ∀ a H' W z Ls, Same H H' → SqT K H' a [.ref W, z] → WishAt H' W rows last c → Tp K H' z (dI Ls) → Ls.Pairwise (· < ·) → (∀ y ∈ Ls, -(b : Int) ≤ y ∧ y ≤ b) → (∀ y, y ∈ Ls ↔ LeftAt rows last c y = true) → Q (.ref a) H'
theorem O_free_wish (T : Tx K mg) : Ok P w K mg base 5 (He.ga K "free_wish") ["look"] (sp_free K) := by
  have O_spots_changes := O_spots_changes (P := P) (w := w) (base := base) T
  have O_added_wish := O_added_wish (P := P) (w := w) (base := base) T
  have O_best_turns := O_best_turns (P := P) (w := w) (base := base) T
  refine Ok.mk T.f_free_wish sc_free_wish (fun vs H Q E h => ?_) (fun _ _ _ _ _ _ us hl => match us, hl with | [_], _ => rfl) (fun cdv A outer s H vs Q E hr h => ?_)
  · obtain ⟨v, rows, last, b, c, rfl, _⟩ := h; rfl
  · obtain ⟨v, rows, last, b, c, rfl, li, hl6, hb, hrb, h01, k⟩ := h
    have hu := Nat.lt_of_le_of_lt (Nat.add_le_add_left (by decide : 1 ≤ 64) _) hr.units
    have two := two_last hl6
    refine ⟨_, (pss_cons (ps_par (i := 1) (j := 2) rfl sc_free_wish.nd rfl rfl (by decide) rfl rfl (pa_cons pe_dnewT (pa_cons (pe_lst pa_nil) pa_nil)) (by rfl))
      (pss_cons (ps_for PassesOwn.never rfl (pi_list (pe_fn O_spots_changes (hr.mono (by decide)) T.g_spots_changes (pa_cons (pv 0) pa_nil))) (pg_tup rfl (pgs_cons (pg_name (i := 3) sc_free_wish.nd rfl (.inl rfl) (by first | exact .inl rfl | exact .inr rfl)) (pgs_cons (pg_name (i := 4) sc_free_wish.nd rfl (.inl rfl) (by first | exact .inl rfl | exact .inr rfl)) pgs_nil)))
      (pss_cons (ps_asg (pe_fn O_best_turns (hr.mono (by decide)) T.g_best_turns (pa_cons (pv 4) pa_nil)) (pg_tup rfl (pgs_cons (pg_name (i := 5) sc_free_wish.nd rfl (.inl rfl) (by first | exact .inl rfl | exact .inr rfl)) (pgs_cons (pg_name (i := 6) sc_free_wish.nd rfl (.inl rfl) (by first | exact .inl rfl | exact .inr rfl)) (pgs_cons (pg_name (i := 7) sc_free_wish.nd rfl (.inl rfl) (by first | exact .inl rfl | exact .inr rfl)) pgs_nil)))))
      (pss_cons (ps_expr (pe_fn O_added_wish (hr.mono (by decide)) T.g_added_wish (pa_cons (pv 1) (pa_cons (pv 0) (pa_cons (pv 3) (pa_cons (pv 6) pa_nil))))))
      (pss_one (ps_expr (pe_bm PySem.F.plainAttrs_list PySem.F.slot_list_extend PySem.F.type_list_extend mt_extend (pv 2) (pa_cons (pe_ifExp (pt_cmpR op_eq (pv 7) (pe_un un_neg pe_int) (nomark _)) (pe_lst (pa_cons (pv 3) pa_nil)) (pe_lst pa_nil)) pa_nil)))))))
      (pss_one (ps_ret (pe_tup (pa_cons (pv 1) (pa_cons (pe_callTy call_tuple_of (by rfl) T.z_tuple (by decide +kernel) (pa_cons (pv 2) pa_nil)) pa_nil))))))), ?_⟩
    intro W hW
    refine ⟨Nat.zero_le _, fun Lf hLf => ⟨_, _, rfl, ?_⟩⟩
    have s0 : Same H (upd (upd H W (.dT [])) Lf (.lst [])) := (same_new (o := .dT []) hW).trans (same_new hLf)
    have hWL : W ≠ Lf := ne_of_none (upd_same (H := H) (a := W) (o := .dT [])) hLf
    have hL0 : H Lf = none := none_back (same_new (o := .dT []) hW) hLf
    have w0 : (upd (upd H W (.dT [])) Lf (.lst [])) W = some (.dT []) := by rw [upd_ne hWL]; exact upd_same
    have l0 : (upd (upd H W (.dT [])) Lf (.lst [])) Lf = some (.lst []) := upd_same
    generalize upd (upd H W (.dT [])) Lf (.lst []) = H0 at s0 w0 l0 ⊢
    refine ⟨_, rfl, v, rows, last, b, c, rfl, li.same s0, hl6, hb, hrb, h01, fun F H1 ss s1 sp => ?_⟩
    obtain ⟨hF0, ⟨ys, hF, hp⟩, up, bd, out⟩ := sp
    have hFL : F ≠ Lf := fun e => by rw [e, l0] at hF0; cases hF0
    have hFW : F ≠ W := fun e => by rw [e, w0] at hF0; cases hF0
    have un : ss.Nodup := by
      unfold List.Nodup
      exact up.imp fun h e => by omega
    have sl : ss.length ≤ 100 := by
      have := win_len un bd
      omega
    refine ⟨F, rfl, ⟨_, SqL.of hF⟩, for_src (Src.pl (K := K) (ds := ss) (ys := ys) (R := SpotR K H0 rows last c)) (fun i σ H' => ∃ o3 o4 o5 o6 o7 wk, σ = [some v, some (.ref W), some (.ref Lf), o3, o4, o5, o6, o7] ∧ Same H H' ∧ (H' F = some (.lst ys) ∧ Paired (fun y v => SpotR K H0 rows last c y v H') ss ys) ∧ H' W = some (.dT wk) ∧ wk.length ≤ 100 * i ∧
      (∀ y (t : Nat), (valV wk (wKey y t)).isSome = true ↔ y ∈ ss.take i ∧ Wish rows last c y t = true) ∧ H' Lf = some (.lst (((ss.take i).filter (LeftAt rows last c)).map V.int))) ?_ ?_ ?_ ?_⟩
    · exact ⟨_, _, _, _, _, [], rfl, s0.trans s1, ⟨hF, hp⟩, s1 _ _ w0, Nat.zero_le _, fun y t => by simp [valV_nil], s1 _ _ l0⟩
    · rintro i σ H' _ ⟨_, _, _, _, _, _, _, _, ⟨g1, g2⟩, _⟩
      exact ⟨SqL.of g1, g2⟩
    · rintro i y x σ H2 H3 hi ⟨o3, o4, o5, o6, o7, wk, rfl, sx, ⟨gF, gp⟩, gW, gl, gk, gL⟩ s2 hx
      obtain ⟨T1, Z, ns, rfl, h3, _, h4, h5⟩ := hx
      have eti : ss.take (i + 1) = ss.take i ++ [y] := by rw [List.take_succ, hi]; rfl
      have hil := (List.getElem?_eq_some_iff.mp hi).1
      refine ⟨T1, _, rfl, h3, rfl, _, _, rfl, _, _, rfl, rfl, ?_⟩
      refine ⟨_, rfl, .ref Z, chgs rows last c y, Nd.cnt (par y c) last, 2 ^ last, rfl, ⟨Z, ns, rfl, SqL.of h4, h5⟩, (by unfold Nd.cnt; omega), two.1, by omega, fun r H4 s4 t4 => ?_⟩
      obtain ⟨q, qs, rfl, q1, q2⟩ := t4.tup_inv
      cases q2 with
      | cons u1 q3 =>
      cases q3 with
      | cons u2 q4 =>
      cases q4 with
      | cons u3 q5 =>
      cases q5
      have e3 := u3.int_inv
      subst e3
      refine ⟨q, _, rfl, q1, rfl, _, _, rfl, _, _, rfl, _, _, rfl, rfl, ?_⟩
      have s24 := s2.trans s4
      have gW4 := s24 _ _ gW
      have pl : (dpTop (chgs rows last c y) (Nd.cnt (par y c) last)).2.length ≤ 100 := by
        have := dp_len (chgs rows last c y) (Nd.cnt (par y c) last)
        have h2 : Nd.cnt (par y c) last ≤ 100 := by unfold Nd.cnt; omega
        unfold dpTop
        split <;> omega
      refine ⟨_, rfl, _, rfl, _, rfl, _, rfl, W, _, _, y, c, _, wk, rows, last, rfl, gW4, li.same (sx.trans s24), u2, by omega, fun H5 wk' s5 gW5 gl5 gk5 => ?_⟩
      have st5 := s5.stayN (K := K) (by rw [gW4]; rfl)
      have gL5 := s5 _ _ (Ne.symm hWL) (s24 _ _ gL)
      have gF5 := s5 _ _ hFW (s24 _ _ gF)
      have sW : Same H H5 := fun b o e => s5 b o (ne_of_none e hW) ((sx.trans s24) _ _ e)
      have gp5 : Paired (fun y v => SpotR K H0 rows last c y v H5) ss ys := L2.Paired.mapP gp fun y' v' h => by
        obtain ⟨T2, Z2, n2, e, a1, a2, a3, a4⟩ := h.same s24
        have hZW : Z2 ≠ W := fun e => by rw [e, w0] at a2; cases a2
        exact ⟨T2, Z2, n2, e, st5.1 _ _ a1, a2, s5 _ _ hZW a3, a4.stay st5⟩
      have kk : ∀ y' (t : Nat), (valV wk' (wKey y' t)).isSome = true ↔ y' ∈ ss.take (i + 1) ∧ Wish rows last c y' t = true := fun y' t => by
        rw [gk5, gk, eti, List.mem_append, List.mem_singleton, List.mem_map]
        have wk2 : (∃ j ∈ (dpTop (chgs rows last c y) (Nd.cnt (par y c) last)).2, wKey y (par y c + 2 * j) = wKey y' t) ↔ y' = y ∧ Wish rows last c y' t = true := by
          constructor
          · rintro ⟨j, hj, e⟩
            unfold wKey at e
            simp only [List.cons.injEq, Sum.inl.injEq, and_true] at e
            obtain ⟨e1, e2⟩ := e
            subst e1
            refine ⟨rfl, ?_⟩
            unfold Wish
            exact decide_eq_true ⟨j, hj, by omega⟩
          · rintro ⟨rfl, h⟩
            unfold Wish at h
            obtain ⟨j, hj, e⟩ := of_decide_eq_true h
            exact ⟨j, hj, by rw [e]⟩
        rw [wk2]
        constructor
        · rintro (⟨a, b⟩ | ⟨a, b⟩)
          · exact ⟨.inl a, b⟩
          · exact ⟨.inr a, b⟩
        · rintro ⟨a | a, b⟩
          · exact .inl ⟨a, b⟩
          · exact .inr ⟨a, b⟩
      -- lefts.extend(..)
      have fin : ∀ (B : Addr) (zs : List V), H5 B = none → zs = (if LeftAt rows last c y = true then [V.int y] else []) →
          (upd H5 B (.lst zs)) Lf = some (.lst (((ss.take i).filter (LeftAt rows last c)).map V.int)) ∧ (Same H (upd (upd H5 B (.lst zs)) Lf (.lst ((((ss.take i).filter (LeftAt rows last c)).map V.int) ++ zs)))) ∧
          ((upd (upd H5 B (.lst zs)) Lf (.lst ((((ss.take i).filter (LeftAt rows last c)).map V.int) ++ zs))) F = some (.lst ys) ∧ Paired (fun y v => SpotR K H0 rows last c y v (upd (upd H5 B (.lst zs)) Lf (.lst ((((ss.take i).filter (LeftAt rows last c)).map V.int) ++ zs)))) ss ys) ∧
          (upd (upd H5 B (.lst zs)) Lf (.lst ((((ss.take i).filter (LeftAt rows last c)).map V.int) ++ zs))) W = some (.dT wk') ∧ (((ss.take i).filter (LeftAt rows last c)).map V.int) ++ zs = (((ss.take (i + 1)).filter (LeftAt rows last c)).map V.int) := by
        intro B zs hB ez
        have sB : Same H5 (upd H5 B (.lst zs)) := same_new hB
        have stL := Stay.lst (K := K) (o := .lst ((((ss.take i).filter (LeftAt rows last c)).map V.int) ++ zs)) (sB _ _ gL5)
        refine ⟨sB _ _ gL5, same_put (sW.trans sB) hL0, ⟨by rw [upd_ne hFL]; exact sB _ _ gF5, L2.Paired.mapP gp5 fun y' v' h => ?_⟩, by rw [upd_ne hWL]; exact sB _ _ gW5, ?_⟩
        · obtain ⟨T2, Z2, n2, e, a1, a2, a3, a4⟩ := h.same sB
          have hZL : Z2 ≠ Lf := fun e => by rw [e, l0] at a2; cases a2
          exact ⟨T2, Z2, n2, e, stL.1 _ _ a1, a2, by rw [upd_ne hZL]; exact a3, a4.stay stL⟩
        · rw [eti, List.filter_append, List.map_append, ez]
          congr 1
          rw [List.filter_cons]
          by_cases h : LeftAt rows last c y = true
          · rw [if_pos h, if_pos h]; rfl
          · rw [if_neg h, if_neg h]; rfl
      have fl : (((ss.take i).filter (LeftAt rows last c)).map V.int).length + 1 ≤ sizeLine := by
        rw [List.length_map]
        have := List.length_filter_le (LeftAt rows last c) (ss.take i)
        rw [List.length_take] at this
        exact Nat.le_trans (by omega : _ ≤ 1000) (by decide)
      refine ⟨_, rfl, ty_list gL5, _, rfl, _, rfl, rfl, _, rfl, ?_⟩
      have el : LeftAt rows last c y = dpLeft (chgs rows last c y) (Nd.cnt (par y c) last) := rfl
      by_cases h : LeftAt rows last c y = true
      · have e1 : signOf (dpLeft (chgs rows last c y) (Nd.cnt (par y c) last)) = -1 := by rw [← el, h]; rfl
        refine dT (by rw [e1]) ⟨_, rfl, (by show 1 ≤ sizeLine; decide), fun B hB => ?_⟩
        obtain ⟨f1, f2, f3, f4, f5⟩ := fin B [V.int y] hB (by rw [if_pos h])
        refine ⟨Lf, B, _, _, rfl, rfl, f1, upd_same, fl, _, _, _, _, _, wk', rfl, f2, f3, f4, by omega, kk, ?_⟩
        rw [upd_same, f5]
      · have e1 : signOf (dpLeft (chgs rows last c y) (Nd.cnt (par y c) last)) = 1 := by
          rw [← el]
          unfold signOf
          rw [if_neg h]
        refine dFa (by rw [e1]; exact fun e => by cases V.int.inj e) ⟨Nat.zero_le _, fun B hB => ?_⟩
        obtain ⟨f1, f2, f3, f4, f5⟩ := fin B [] hB (by rw [if_neg h])
        refine ⟨Lf, B, _, _, rfl, rfl, f1, upd_same, Nat.le_trans (Nat.le_succ _) fl, _, _, _, _, _, wk', rfl, f2, f3, f4, by omega, kk, ?_⟩
        rw [upd_same, f5]
    · rintro σ H' ⟨o3, o4, o5, o6, o7, wk, rfl, sx, _, gW, gl, gk, gL⟩
      rw [List.take_length] at gk gL
      refine ⟨_, rfl, _, rfl, Lf, _, rfl, .inl ⟨SqL.of gL, fun q hq => ⟨(by show 2 ≤ sizeLine; decide), fun a ha => ?_⟩⟩⟩
      have s3 : Same H' (upd (upd H' q (.tup ((ss.filter (LeftAt rows last c)).map V.int))) a (.tup [.ref W, .ref q])) := (same_new (o := .tup ((ss.filter (LeftAt rows last c)).map V.int)) hq).trans (same_new ha)
      refine k a _ W (.ref q) (ss.filter (LeftAt rows last c)) (sx.trans s3) (SqT.of upd_same) ⟨wk, s3 _ _ gW, fun y t => ?_⟩ (tpI (SqT.of ((same_new (o := .tup [.ref W, .ref q]) ha) _ _ upd_same))) (up.filter _) (fun y hy => bd y (List.mem_filter.mp hy).1) fun y => ?_
      · by_cases hy : y ∈ ss
        · have := gk y t
          cases e : Wish rows last c y t with
          | true => rw [e] at this; exact this.mpr ⟨hy, rfl⟩
          | false =>
            rw [e] at this
            cases e2 : (valV wk (wKey y t)).isSome with
            | false => rfl
            | true => exact absurd (this.mp e2).2 (by simp)
        · rw [wish_out (out y hy) t]
          cases e2 : (valV wk (wKey y t)).isSome with
          | false => rfl
          | true => exact absurd ((gk y t).mp e2).1 hy
      · rw [List.mem_filter]
        constructor
        · exact fun h => h.2
        · intro h
          refine ⟨Classical.byContradiction fun hy => ?_, h⟩
          rw [left_out (out y hy)] at h
          cases h
abbrev N_ends_of : List Str := ["look", "spots", "spot", "_"]
theorem sc_ends_of : FnScope N_ends_of ["look"] (defScope s_ends_of) := ⟨rfl, rfl, rfl, by decide +kernel, rfl, by decide +kernel, by decide +kernel⟩
def sp_ends (K : PySem.W.Frag) : Sp := fun vs H Q _ => ∃ (v : V) (rows : List PRow) (last : Nat) (c : Int), vs = [v] ∧ LookIs K H v rows last c ∧ ∀ a H' lo hi, Same H H' → SqT K H' a [.int lo, .int hi] → (∃ r ∈ rows, r.1 = lo) → (∃ r ∈ rows, r.1 = hi) → (∀ r ∈ rows, lo ≤ r.1 ∧ r.1 ≤ hi) → Q (.ref a) H'
theorem O_ends_of (T : Tx K mg) : Ok P w K mg base 1 (He.ga K "ends_of") ["look"] (sp_ends K) := by
  refine Ok.mk T.f_ends_of sc_ends_of (fun vs H Q E h => ?_) (fun _ _ _ _ _ _ us hl => match us, hl with | [_], _ => rfl) (fun cdv A outer s H vs Q E hr h => ?_)
  · obtain ⟨v, rows, last, c, rfl, _⟩ := h; rfl
  · obtain ⟨v, rows, last, c, rfl, li, k⟩ := h
    obtain ⟨⟨a, dx, tv, rfl, h1, h2⟩, ok, _⟩ := li
    obtain ⟨ta, xs, rfl, h3, h4, h5⟩ := tpL_inv h2
    have hl := ok.len
    have hpos : 0 < rows.length := List.length_pos_iff.mpr ok.ne
    refine ⟨_, (pss_cons (ps_setLc (i := 1) (own := [("spot", 2), ("_", 3), ("_", 3)]) rfl sc_ends_of.nd rfl rfl (sw_true rfl rfl rfl (by decide +kernel)) (pi_tup (pe_fld (pv 0) rfl)) (blkOk_by (N := N_ends_of) (sc := defScope s_ends_of) (by decide +kernel)) (fun _ _ _ _ _ => (pg_tupK (K := K) (n := 3) rfl rfl (pgs_cons (pg_name (i := 2) sc_ends_of.nd rfl (.inl rfl) (by first | exact .inl rfl | exact .inr rfl)) (pgs_cons (pg_name (i := 3) sc_ends_of.nd rfl (.inl rfl) (by first | exact .inl rfl | exact .inr rfl)) (pgs_cons (pg_name (i := 3) sc_ends_of.nd rfl (.inl rfl) (by first | exact .inl rfl | exact .inr rfl)) pgs_nil))))) (fun _ _ _ _ _ => pts_nil) (fun _ _ _ _ _ => (pv 2)))
      (pss_one (ps_ret (pe_tup (pa_cons (pe_callB (cr_min rfl) (by rfl) T.z_min (by decide +kernel) (pa_cons (pv 1) pa_nil)) (pa_cons (pe_callB (cr_max rfl) (by rfl) T.z_max (by decide +kernel) (pa_cons (pv 1) pa_nil)) pa_nil)))))), ?_⟩
    refine ⟨_, rfl, a, _, dx, _, _, rfl, h1, T.c_Look, T.a_Look_rows, rfl, ta, rfl, ⟨_, h3⟩, fun D hD => lc_src (Src.tp (K := K) (f := dR) (l := rows) (xs := xs)) (K := K) hD (fun r y _ => y = .int r.1) (fun _ => true) (fun H' s2 => ⟨same_t s2 h3, h4.same s2⟩) (fun _ _ _ _ _ h => h) (by omega) (fun i d y H2 Q1 Q0 s2 hi hy k1 _ => ?_) (fun H2 ys s2 hD2 hp => ?_)⟩
    · obtain ⟨q, rfl, hq⟩ := tpI_inv hy
      exact ⟨q, _, rfl, hq, rfl, _, _, rfl, _, _, rfl, _, _, rfl, rfl, rfl, yes_ ⟨_, rfl, k1 rfl _ _ (Same.refl _) rfl⟩⟩
    · rw [List.filter_eq_self.mpr (by simp)] at hp
      have e := paired_val (f := fun (r : PRow) => V.int r.1) hp
      have e2 : ys = (rows.map (·.1)).map V.int := by rw [e, List.map_map]; rfl
      subst e2
      refine ⟨_, rfl, D, rows.map (·.1), rfl, SqL.of hD2, by rw [List.length_map]; exact hpos, fun lo hlo1 hlo2 => ?_⟩
      refine ⟨_, rfl, D, rows.map (·.1), rfl, SqL.of hD2, by rw [List.length_map]; exact hpos, fun hi hhi1 hhi2 => ⟨(by show 2 ≤ sizeLine; decide), fun q hq => ?_⟩⟩
      refine k q _ lo hi (s2.trans (same_new hq)) (SqT.of upd_same) ?_ ?_ fun r hr => ⟨hlo2 _ (List.mem_map.mpr ⟨r, hr, rfl⟩), hhi2 _ (List.mem_map.mpr ⟨r, hr, rfl⟩)⟩
      · obtain ⟨r, hr, e⟩ := List.mem_map.mp hlo1
        exact ⟨r, hr, e⟩
      · obtain ⟨r, hr, e⟩ := List.mem_map.mp hhi1
        exact ⟨r, hr, e⟩
abbrev N_need_near : List Str := ["look", "low", "high"]
theorem sc_need_near : FnScope N_need_near ["look"] (defScope s_need_near) := ⟨rfl, rfl, rfl, by decide +kernel, rfl, by decide +kernel, by decide +kernel⟩
def sp_near (K : PySem.W.Frag) : Sp := fun vs H Q _ => ∃ (v : V) (rows : List PRow) (last : Nat) (c : Int), vs = [v] ∧ LookIs K H v rows last c ∧ last ≤ 6 ∧ (∀ r ∈ rows, -50 ≤ r.1 ∧ r.1 ≤ 50) ∧ ∀ H', Same H H' → Q .non H'
theorem O_need_near (T : Tx K mg) : Ok P w K mg base 2 (He.ga K "need_near") ["look"] (sp_near K) := by
  have O_ends_of := O_ends_of (P := P) (w := w) (base := base) T
  refine Ok.mk T.f_need_near sc_need_near (fun vs H Q E h => ?_) (fun _ _ _ _ _ _ us hl => match us, hl with | [_], _ => rfl) (fun cdv A outer s H vs Q E hr h => ?_)
  · obtain ⟨v, rows, last, c, rfl, _⟩ := h; rfl
  · obtain ⟨v, rows, last, c, rfl, li, hl6, hb, k⟩ := h
    refine ⟨_, (pss_cons (ps_asg (pe_fn O_ends_of (hr.mono (by decide)) T.g_ends_of (pa_cons (pv 0) pa_nil)) (pg_tup rfl (pgs_cons (pg_name (i := 1) sc_need_near.nd rfl (.inl rfl) (by first | exact .inl rfl | exact .inr rfl)) (pgs_cons (pg_name (i := 2) sc_need_near.nd rfl (.inl rfl) (by first | exact .inl rfl | exact .inr rfl)) pgs_nil))))
      (pss_cons (ps_if (PW.pt (pw_or (pt_cmpR op_lt (pv 1) (pe_un un_neg (pe_glob (v := .int 999900) (by rfl) T.i_FARTHEST_FIRST.choose_spec ⟨_, rfl⟩)) (nomark _)) (pw_or1 (pt_cmpR op_gt (pv 2) (pe_glob (v := .int 999900) (by rfl) T.i_FARTHEST_FIRST.choose_spec ⟨_, rfl⟩) (nomark _)))))
      (pss_one ps_never)
      pss_nil)
      (pss_one (ps_if (pt_cmpR op_gt (pe_op op_add (pe_op op_sub (pv 2) (pv 1)) (pe_op op_mul pe_int (pe_fld (pv 0) rfl))) (pe_glob (v := .int 118) (by rfl) T.i_MOST_WIDE.choose_spec ⟨_, rfl⟩) (nomark _))
      (pss_one ps_never)
      pss_nil)))), ?_⟩
    refine ⟨_, rfl, v, rows, last, c, rfl, li, fun q H1 lo hi s1 hq ⟨r1, m1, e1⟩ ⟨r2, m2, e2⟩ _ => ?_⟩
    obtain ⟨⟨a, dx, tv, rfl, h1, h2⟩, _⟩ := li
    have b1 := hb r1 m1
    have b2 := hb r2 m2
    refine ⟨q, _, rfl, hq, rfl, _, _, rfl, _, _, rfl, rfl, ?_⟩
    refine ⟨_, rfl, _, rfl, _, _, rfl, rfl, _, rfl, ?_⟩
    refine dFa (by omega) ⟨_, rfl, _, _, rfl, rfl, _, rfl, dFa (by omega) ?_⟩
    refine ⟨_, rfl, _, rfl, _, _, rfl, rfl, _, rfl, a, _, dx, _, _, rfl, s1 _ _ h1, T.c_Look, T.a_Look_last, rfl, _, _, rfl, rfl, .inl (by decide), _, _, rfl, rfl, _, _, rfl, rfl, _, rfl, dFa (by omega) (k _ s1)⟩
theorem lenS {n : Nat} (h : n ≤ 1001) : n ≤ sizeLine := Nat.le_trans h (by decide)
theorem same_l {K : PySem.W.Frag} {H H' : Hp} {a : Addr} {xs : List V} (s : Same H H') (h : SqL K H a xs) : SqL K H' a xs := h.imp (fun r => r.imp (fun e => s _ _ e) fun ⟨o, e⟩ => ⟨o, s _ _ e⟩) id
theorem zip_sum : ∀ {as bs : List Int} {ys : List V}, Paired (fun (d : V × V) (y : V) => ∃ i j : Int, d = (V.int i, V.int j) ∧ y = .int (i + j)) ((as.map V.int).zip (bs.map V.int)) ys → ys = (List.zipWith (· + ·) as bs).map V.int
  | [], _, _, h => by cases h; rfl
  | _ :: _, [], _, h => by cases h; rfl
  | a :: as, b :: bs, _, h => by
    cases h with
    | cons h1 h2 =>
      obtain ⟨i, j, e, rfl⟩ := h1
      cases e
      rw [zip_sum h2]
      rfl
abbrev N_later_row : List Str := ["row", "one", "other"]
theorem sc_later_row : FnScope N_later_row ["row"] (defScope s_later_row) := ⟨rfl, rfl, rfl, by decide +kernel, rfl, by decide +kernel, by decide +kernel⟩
def sp_later (K : PySem.W.Frag) : Sp := fun vs H Q _ => ∃ (a : Addr) (ns : List Int), vs = [.ref a] ∧ SqL K H a (ns.map V.int) ∧ ns.length ≤ 1000 ∧ ∀ D H', Same H H' → H D = none → H' D = some (.lst ((List.zipWith (· + ·) (0 :: ns) (ns ++ [0])).map V.int)) → Q (.ref D) H'
theorem O_later_row (T : Tx K mg) : Ok P w K mg base 1 (He.ga K "later_row") ["row"] (sp_later K) := by
  refine Ok.mk T.f_later_row sc_later_row (fun vs H Q E h => ?_) (fun _ _ _ _ _ _ us hl => match us, hl with | [_], _ => rfl) (fun cdv A outer s H vs Q E hr h => ?_)
  · obtain ⟨a, ns, rfl, _⟩ := h; rfl
  · obtain ⟨a, ns, rfl, ha, hl, k⟩ := h
    refine ⟨_, (pss_one (ps_ret (pe_lc (own := [("one", 1), ("other", 2)]) rfl sc_later_row.nd (pi_zip (by rfl) T.z_zip (pa_cons (pe_lst (pa_cons pe_int (StX.pa_star (pv 0) pa_nil))) (pa_cons (pe_lst (StX.pa_star (pv 0) (pa_cons pe_int pa_nil))) pa_nil))) (blkOk_by (N := N_later_row) (sc := defScope s_later_row) (by decide +kernel)) (fun _ _ _ _ _ => (pg_tupK (K := K) (n := 2) rfl rfl (pgs_cons (pg_name (i := 1) sc_later_row.nd rfl (.inl rfl) (by first | exact .inl rfl | exact .inr rfl)) (pgs_cons (pg_name (i := 2) sc_later_row.nd rfl (.inl rfl) (by first | exact .inl rfl | exact .inr rfl)) pgs_nil)))) (fun _ _ _ _ _ => pts_nil) (fun _ _ _ _ _ => (pe_op op_add (pv 1) (pv 2)))))), ?_⟩
    refine ⟨_, rfl, a, ns.map V.int, rfl, .inr ha, lenS (by rw [List.length_cons, List.append_nil, List.length_map]; omega), fun p hp => ?_⟩
    have s1 : Same H (upd H p (.lst (V.int 0 :: (ns.map V.int ++ [])))) := same_new hp
    refine ⟨_, rfl, a, ns.map V.int, rfl, .inr (same_l s1 ha), lenS (by rw [List.length_append, List.length_map]; show ns.length + 1 ≤ 1001; omega), fun q hq => ?_⟩
    have s2 := same_new (o := HO.lst (ns.map V.int ++ [V.int 0])) hq
    have g1 : SqL K (upd (upd H p (.lst (V.int 0 :: (ns.map V.int ++ [])))) q (.lst (ns.map V.int ++ [V.int 0]))) p ((0 :: ns).map V.int) := .inl (.inl (s2 _ _ (by rw [upd_same, List.append_nil]; rfl)))
    have g2 : SqL K (upd (upd H p (.lst (V.int 0 :: (ns.map V.int ++ [])))) q (.lst (ns.map V.int ++ [V.int 0]))) q ((ns ++ [0]).map V.int) := .inl (.inl (by rw [upd_same, List.map_append]; rfl))
    refine ⟨p, q, _, _, rfl, g1, g2, fun D hD => ?_⟩
    refine lc_src (Src.zip (K := K) (a := p) (b := q) (xs := (0 :: ns).map V.int) (ys := (ns ++ [0]).map V.int)) (K := K) hD (fun r y _ => ∃ i j : Int, r = (V.int i, V.int j) ∧ y = .int (i + j)) (fun _ => true) (fun H' s3 => ⟨same_l s3 g1, same_l s3 g2⟩) (fun _ _ _ _ _ h => h) (by rw [List.length_zip]; simp; omega) (fun i d y H2 Q1 Q0 s3 hi hy k1 _ => ?_) (fun H2 ys s3 hD2 hp2 => ?_)
    · obtain ⟨A1, rfl, hA⟩ := hy
      rw [List.getElem?_zip_eq_some, List.getElem?_map, List.getElem?_map] at hi
      obtain ⟨hi1, hi2⟩ := hi
      obtain ⟨i1, _, e1⟩ := Option.map_eq_some_iff.mp hi1
      obtain ⟨j1, _, e2⟩ := Option.map_eq_some_iff.mp hi2
      obtain ⟨d1, d2⟩ := d
      cases e1
      cases e2
      exact ⟨A1, _, rfl, .inl (.inl hA), rfl, _, _, rfl, _, _, rfl, rfl, rfl, yes_ ⟨_, rfl, _, rfl, _, _, rfl, rfl, k1 rfl _ _ (Same.refl _) ⟨_, _, rfl, rfl⟩⟩⟩
    · rw [List.filter_eq_self.mpr (by simp)] at hp2
      have e2 : ys = (List.zipWith (· + ·) (0 :: ns) (ns ++ [0])).map V.int := zip_sum hp2
      subst e2
      exact k D H2 ((s1.trans s2).trans s3) (none_back s1 (none_back s2 hD)) hD2
end
end Nw
namespace Nw
open PySem PySem.Spec PyProof.Rows L2 Nd
theorem pairs_flip {K : PySem.W.Frag} {H H2 : Hp} (s : Same H H2) : ∀ {L : Tab} {as : List Addr}, Paired (fun (d : Int × Int) a => H a = some (.tup [.int d.1, .int d.2])) L as → Paired (fun (p : Addr) (d : Int × Int) => SqT K H2 p [.int d.1, .int d.2]) as L
  | _, _, .nil => .nil
  | _, _, .cons h t => .cons (SqT.of (s _ _ h)) (pairs_flip s t)
/-- what the two inner loops keep -/
def Inn (K : PySem.W.Frag) (H' : Hp) (fo he sh a : Addr) (T : Nat) (found here : Tab) (hands : List Int) : Prop := H' fo = some (.dK (tabV V.int found)) ∧ H' he = some (.dK (tabV V.int here)) ∧ fo ≠ he ∧ H' sh = some (.lst ((shares T).map V.int)) ∧ ∃ dx t u v, H' a = some (.ins (He.ga K "Line") dx (lineF t u v)) ∧ Tp K H' v (dI hands)
section
variable {K : PySem.W.Frag} {H' : Hp} {fo he sh a : Addr} {T : Nat} {found here : Tab} {hands : List Int}
theorem Inn.same {H2 : Hp} (I : Inn K H' fo he sh a T found here hands) (s : Same H' H2) : Inn K H2 fo he sh a T found here hands := by
  obtain ⟨h1, h2, h3, h4, dx, t, u, v, h5, h6⟩ := I
  exact ⟨s _ _ h1, s _ _ h2, h3, s _ _ h4, dx, t, u, v, s _ _ h5, h6.same s⟩
theorem Inn.up1 {f2 : Tab} (I : Inn K H' fo he sh a T found here hands) : Inn K (upd H' fo (.dK (tabV V.int f2))) fo he sh a T f2 here hands := by
  obtain ⟨h1, h2, h3, h4, dx, t, u, v, h5, h6⟩ := I
  refine ⟨upd_same, by rw [upd_ne (Ne.symm h3)]; exact h2, h3, by rw [upd_ne (ne_of h4 h1 (by simp))]; exact h4, dx, t, u, v, by rw [upd_ne (ne_of h5 h1 (by simp))]; exact h5, ?_⟩
  exact h6.stay (SameX.upd.stayN (by rw [h1]; rfl))
theorem Inn.up2 {f2 : Tab} (I : Inn K H' fo he sh a T found here hands) : Inn K (upd H' he (.dK (tabV V.int f2))) fo he sh a T found f2 hands := by
  obtain ⟨h1, h2, h3, h4, dx, t, u, v, h5, h6⟩ := I
  refine ⟨by rw [upd_ne h3]; exact h1, upd_same, h3, by rw [upd_ne (ne_of h4 h2 (by simp))]; exact h4, dx, t, u, v, by rw [upd_ne (ne_of h5 h2 (by simp))]; exact h5, ?_⟩
  exact h6.stay (SameX.upd.stayN (by rw [h2]; rfl))
end
section
variable {P : Program} {w : World} {K : PySem.W.Frag} {mg : Str → Option Value} {base : Heap}
abbrev N_heaps_for : List Str := ["look", "lefts", "wish", "low", "high", "found", "line", "shares", "tick", "here", "ahead", "spot", "at", "many"]
theorem sc_heaps_for : FnScope N_heaps_for ["look", "lefts", "wish"] (defScope s_heaps_for) := ⟨rfl, rfl, rfl, by decide +kernel, rfl, by decide +kernel, by decide +kernel⟩
def sp_heapsFor (K : PySem.W.Frag) : Sp := fun vs H Q _ => ∃ (v z : V) (W : Addr) (rows : List PRow) (last b : Nat) (c : Int) (Ls : List Int), vs = [v, z, .ref W] ∧ LookIs K H v rows last c ∧ last ≤ 6 ∧ b ≤ 31 ∧ (∀ r ∈ rows, -(b : Int) ≤ r.1 ∧ r.1 ≤ b) ∧ (c = 0 ∨ c = 1) ∧
  WishAt H W rows last c ∧ Tp K H z (dI Ls) ∧ Ls.Nodup ∧ Ls.length ≤ 1000 ∧ (∀ y, y ∈ Ls ↔ LeftAt rows last c y = true) ∧ ∀ u H' F, Same H H' → Hz K H' u F → WorstM b rows last c F Ls → Q u H'
theorem O_heaps_for (T : Tx K mg) : Ok P w K mg base 10 (He.ga K "heaps_for") ["look", "lefts", "wish"] (sp_heapsFor K) := by
  have O_line_at := O_line_at (P := P) (w := w) (base := base) T
  have O_advance := O_advance (P := P) (w := w) (base := base) T
  have O_ends_of := O_ends_of (P := P) (w := w) (base := base) T
  have O_later_row := O_later_row (P := P) (w := w) (base := base) T
  refine Ok.mk T.f_heaps_for sc_heaps_for (fun vs H Q E h => ?_) (fun _ _ _ _ _ _ us hl => match us, hl with | [_, _, _], _ => rfl) (fun cdv A outer s H vs Q E hr h => ?_)
  · obtain ⟨v, z, W, rows, last, b, c, Ls, rfl, _⟩ := h; rfl
  · obtain ⟨v, z, W, rows, last, b, c, Ls, rfl, li, hl6, hb, hrb, h01, hW, hz, hLn, hLl, hLw, k⟩ := h
    have hu := Nat.lt_of_le_of_lt (Nat.add_le_add_left (by decide : 1 ≤ 64) _) hr.units
    refine ⟨_, (pss_cons (ps_asg (pe_tup (pa_cons (pe_fn O_ends_of (hr.mono (by decide)) T.g_ends_of (pa_cons (pv 0) pa_nil)) (pa_cons pe_dnewK pa_nil))) (pg_tup rfl (pgs_cons (pg_tup rfl (pgs_cons (pg_name (i := 3) sc_heaps_for.nd rfl (.inl rfl) (by first | exact .inl rfl | exact .inr rfl)) (pgs_cons (pg_name (i := 4) sc_heaps_for.nd rfl (.inl rfl) (by first | exact .inl rfl | exact .inr rfl)) pgs_nil))) (pgs_cons (pg_name (i := 5) sc_heaps_for.nd rfl (.inl rfl) (by first | exact .inl rfl | exact .inr rfl)) pgs_nil))))
      (pss_cons (ps_par (i := 6) (j := 7) rfl sc_heaps_for.nd rfl rfl (by decide) rfl rfl (pa_cons (pe_fn O_line_at (hr.mono (by decide)) T.g_line_at (pa_cons pe_int (pa_cons (pe_tupZ pa_nil) (pa_cons (pv 1) pa_nil)))) (pa_cons (pe_lst (pa_cons pe_int pa_nil)) pa_nil)) (by rfl))
      (pss_cons (ps_for PassesOwn.never rfl (pi_range1 (by rfl) T.z_range (pa_cons (pe_fld (pv 0) rfl) pa_nil)) (pg_name (i := 8) sc_heaps_for.nd rfl (.inl rfl) (by first | exact .inl rfl | exact .inr rfl))
      (pss_cons (ps_par (i := 9) (j := 10) rfl sc_heaps_for.nd rfl rfl (by decide) rfl rfl (pa_cons (pe_callTy (call_dictZ rfl) (by rfl) T.z_dict (by decide +kernel) (pa_cons (pe_fld (pv 6) rfl) pa_nil)) (pa_cons (pe_op op_sub (pe_fld (pv 0) rfl) (pv 8)) pa_nil)) (by rfl))
      (pss_cons (ps_for PassesOwn.never rfl (pi_range2 (by rfl) T.z_range (pa_cons (pe_op op_sub (pv 3) (pv 10)) (pa_cons (pe_op op_add (pe_op op_add (pv 4) (pv 10)) pe_int) pa_nil))) (pg_name (i := 11) sc_heaps_for.nd rfl (.inl rfl) (by first | exact .inl rfl | exact .inr rfl))
      (pss_one (ps_if (PW.pt (pw_and (pt_cmpR op_eq (pe_op op_mod (pe_op op_add (pv 11) (pv 8)) pe_int) (pe_fld (pv 0) rfl) (nomark _)) (pw_and1 (pt_cmpR op_ne (pe_op op_mod (pe_dget2 hu (pv 9) (pv 11) pe_int ⟨rfl, rfl, rfl, rfl⟩) pe_int) (pe_callTy call_int1 (by rfl) T.z_int (by decide +kernel) (pa_cons (pe_cmp (pc_din hu (pe_tup (pa_cons (pv 11) (pa_cons (pv 8) pa_nil))) (pv 2)) rfl) pa_nil)) (nomark _)))))
      (pss_cons (ps_dput hu (pv 5) (pe_op op_add (pv 11) (pv 8)) (pe_op op_add (pe_dget2 hu (pv 5) (pe_op op_add (pv 11) (pv 8)) pe_int ⟨rfl, rfl, rfl, rfl⟩) (pe_op op_shl pe_int (pv 8))) rfl)
      (pss_one (ps_for PassesOwn.never rfl (pi_enum (by rfl) T.z_enumerate (pa_cons (pv 7) pa_nil)) (pg_tup rfl (pgs_cons (pg_name (i := 12) sc_heaps_for.nd rfl (.inl rfl) (by first | exact .inl rfl | exact .inr rfl)) (pgs_cons (pg_name (i := 13) sc_heaps_for.nd rfl (.inl rfl) (by first | exact .inl rfl | exact .inr rfl)) pgs_nil)))
      (pss_one (ps_dput hu (pv 9) (pe_op op_add (pv 11) (pe_op op_mul pe_int (pv 12))) (pe_op op_add (pe_dget2 hu (pv 9) (pe_op op_add (pv 11) (pe_op op_mul pe_int (pv 12))) pe_int ⟨rfl, rfl, rfl, rfl⟩) (pv 13)) rfl)))))
      pss_nil)))
      (pss_cons (ps_par (i := 6) (j := 7) rfl sc_heaps_for.nd rfl rfl (by decide) rfl rfl (pa_cons (pe_fn O_line_at (hr.mono (by decide)) T.g_line_at (pa_cons (pv 8) (pa_cons (pe_callTy call_tupZ (by rfl) T.z_tuple (by decide +kernel) (pa_cons (pe_callB (cr_sortedItems2 rfl) (by rfl) T.z_sorted (by decide +kernel) (pa_cons (pe_bm0 PySem.F.plainAttrs_dict PySem.F.slot_dict_items PySem.F.type_dict_items mt_itemsK (pv 9)) pa_nil)) pa_nil)) (pa_cons (pe_fld (pv 6) rfl) pa_nil)))) (pa_cons (pe_fn O_later_row (hr.mono (by decide)) T.g_later_row (pa_cons (pv 7) pa_nil)) pa_nil)) (by rfl))
      (pss_one (ps_expr (pe_mt0 O_advance T.c_Line T.m_Line_advance (hr.mono (by decide)) (pv 6))))))))
      (pss_one (ps_ret (pe_callTy call_tupZ (by rfl) T.z_tuple (by decide +kernel) (pa_cons (pe_callB (cr_sortedItems2 rfl) (by rfl) T.z_sorted (by decide +kernel) (pa_cons (pe_bm0 PySem.F.plainAttrs_dict PySem.F.slot_dict_items PySem.F.type_dict_items mt_itemsK (pv 5)) pa_nil)) pa_nil))))))), ?_⟩
    have wk_ := hW
    obtain ⟨wk, gW, gw⟩ := wk_
    refine ⟨_, rfl, v, rows, last, c, rfl, li, fun q H1 lo hi s1 hq hlo hhi hall fo hfo => ⟨by show 2 ≤ sizeLine; decide, fun p1 hp1 => ?_⟩⟩
    have s2 := same_new (o := .dK (tabV V.int ([] : Tab))) hfo
    have s3 := same_new (o := .tup [.ref q, .ref fo]) hp1
    refine ⟨p1, _, rfl, SqT.of upd_same, rfl, _, _, rfl, ⟨q, _, rfl, same_t (s2.trans s3) hq, rfl, _, _, rfl, _, _, rfl, rfl, ?_⟩⟩
    refine ⟨_, _, rfl, rfl, ?_⟩
    have s03 := s1.trans (s2.trans s3)
    have hfo0 : H fo = none := none_back s1 hfo
    have gf : (upd (upd H1 fo (.dK (tabV V.int ([] : Tab)))) p1 (.tup [.ref q, .ref fo])) fo = some (.dK (tabV V.int ([] : Tab))) := s3 _ _ upd_same
    change (upd (upd H1 fo (.dK [])) p1 (.tup [.ref q, .ref fo])) fo = some (.dK (tabV V.int ([] : Tab))) at gf
    change Same H (upd (upd H1 fo (.dK [])) p1 (.tup [.ref q, .ref fo])) at s03
    generalize (upd (upd H1 fo (.dK [])) p1 (.tup [.ref q, .ref fo])) = H3 at s03 gf ⊢
    refine ⟨Nat.zero_le _, fun p4 o4 hp4 ho4 => ⟨_, rfl, .ref p4, z, 0, [], Ls, rfl, ⟨p4, o4, [], rfl, ho4, upd_same, .nil⟩, (hz.same s03).same (same_new hp4), fun a H4 s4 ha la => ⟨by show 1 ≤ sizeLine; decide, fun sh hsh => ⟨_, _, rfl, ?_⟩⟩⟩⟩
    have s34 : Same H3 (upd H4 sh (.lst [.int 1])) := ((same_new hp4).trans s4).trans (same_new hsh)
    have la5 := la.same (same_new (o := .lst [.int 1]) hsh)
    have gsh : (upd H4 sh (.lst [.int 1])) sh = some (.lst ((shares 0).map V.int)) := upd_same
    generalize (upd H4 sh (.lst [.int 1])) = H5 at s34 la5 gsh ⊢
    have nr : Near b rows last := fun r hr => ⟨(hrb r hr).1, (hrb r hr).2, li.2.2.2.1 r hr⟩
    have blo : -(b : Int) ≤ lo ∧ lo ≤ b := by obtain ⟨r, m, rfl⟩ := hlo; exact hrb r m
    have bhi : -(b : Int) ≤ hi ∧ hi ≤ b := by obtain ⟨r, m, rfl⟩ := hhi; exact hrb r m
    have lohi : lo ≤ hi := by obtain ⟨r, m, rfl⟩ := hlo; exact (hall r m).2
    have liH := li
    obtain ⟨⟨la0, ldx, ltv, rfl, g1, g2⟩, lrest⟩ := li
    refine ⟨_, rfl, la0, _, ldx, _, _, rfl, (s03.trans s34) _ _ g1, T.c_Look, T.a_Look_last, rfl, _, rfl, by omega, by omega, ?_⟩
    refine for_src (Src.range (lo := 0) (n := ((last : Nat) : Int).toNat)) (fun tk σ H' => ∃ a sh hs hands found o8 o9 o10 o11 o12 o13, σ = [some (.ref la0), some z, some (.ref W), some (.int lo), some (.int hi), some (.ref fo), some (.ref a), some (.ref sh), o8, o9, o10, o11, o12, o13] ∧
      Same H H' ∧ H' fo = some (.dK (tabV V.int found)) ∧ H' sh = some (.lst ((shares tk).map V.int)) ∧ LineAt K H' a tk hs hands ∧ TickInv (Wish rows last c) (isIn Ls) c lo hi last tk (lo - ((last : Int) - (tk : Nat))) found hs hands ∧ hands.Nodup ∧ hs.length + 1000 ≤ 2 ^ tk * 1000 ∧ hands.length ≤ 2 ^ tk * 1000 ∧ found.length ≤ 100 * tk) ?_ ?_ ?_ ?_
    · refine ⟨a, sh, [], Ls, [], _, _, _, _, _, _, rfl, s03.trans s34, s34 _ _ gf, gsh, la5, ?_, hLn, by decide, by omega, Nat.zero_le _⟩
      have e := TickInv.start (wish := Wish rows last c) (col := c) (low := lo) (high := hi) (last := last) (hands := Ls)
      rw [show lo - ((last : Int) - ((0 : Nat) : Int)) = lo - last from by omega]
      exact e
    · intro i σ H' _ _
      exact trivial
    · rintro tk d x σ H6 H7 hT ⟨a, sh, hs, hands, found, o8, o9, o10, o11, o12, o13, rfl, s6, gf6, gs6, la6, I, hn6, l1, l2, l3⟩ s7 hx7
      rw [Int.zero_add] at hx7
      subst hx7
      have hlt := (List.getElem?_eq_some_iff.mp hT).1
      rw [List.length_range, Int.toNat_natCast] at hlt
      have eT := (List.getElem?_eq_some_iff.mp hT).2
      rw [List.getElem_range] at eT
      subst eT
      have p6 := pow_le6 (t := tk) (by omega)
      obtain ⟨dx, u, v1, q1, q2, q3⟩ := la6.same s7
      obtain ⟨au, ou, pu, rfl, du, hu1, hu2, mu⟩ := hz_dict q2 I.hn
      refine ⟨_, rfl, a, _, dx, _, _, rfl, q1, T.c_Line, T.a_Line_heaps, rfl, au, ou, pu, _, rfl, du, hu1, hu2, fun he hhe => ?_⟩
      rw [mu]
      have s8 := same_new (o := .dK (tabV V.int hs)) hhe
      have s68 := s7.trans s8
      have inn8 : Inn K (upd H7 he (.dK (tabV V.int hs))) fo he sh a tk found hs hands := ⟨s68 _ _ gf6, upd_same, ne_of_none (s7 _ _ gf6) hhe, s68 _ _ gs6, dx, _, _, _, s8 _ _ q1, q3.same s8⟩
      have s08 := s6.trans s68
      have hhe0 : H he = none := none_back (s6.trans s7) hhe
      generalize (upd H7 he (.dK (tabV V.int hs))) = H8 at s08 inn8 ⊢
      refine ⟨_, rfl, la0, _, ldx, _, _, rfl, s08 _ _ g1, T.c_Look, T.a_Look_last, rfl, _, rfl, _, _, rfl, rfl, _, _, rfl, ?_⟩
      refine ⟨_, rfl, _, rfl, _, _, rfl, rfl, _, rfl, _, rfl, _, _, rfl, rfl, _, _, rfl, rfl, _, _, rfl, ⟨by omega, by omega, by omega, by omega⟩, ?_⟩
      refine for_src (Src.range (lo := lo - ((last : Int) - (tk : Nat))) (n := (hi + ((last : Int) - (tk : Nat)) + 1 - (lo - ((last : Int) - (tk : Nat)))).toNat)) (fun i σ H' => ∃ found here o11 o12 o13, σ = [some (.ref la0), some z, some (.ref W), some (.int lo), some (.int hi), some (.ref fo), some (.ref a), some (.ref sh), some (.int (tk : Nat)), some (.ref he), some (.int ((last : Int) - (tk : Nat))), o11, o12, o13] ∧
        Same H H' ∧ Inn K H' fo he sh a tk found here hands ∧ TickInv (Wish rows last c) (isIn Ls) c lo hi last tk (lo - ((last : Int) - (tk : Nat)) + (i : Nat)) found here hands ∧ here.length ≤ hs.length + 6 * i ∧ found.length ≤ 100 * tk + i) ?_ ?_ ?_ ?_
      · exact ⟨found, hs, _, _, _, rfl, s08, inn8, by rw [show (lo - ((last : Int) - (tk : Nat)) + ((0 : Nat) : Int)) = lo - ((last : Int) - (tk : Nat)) from by omega]; exact I, by omega, by omega⟩
      · intro i σ H' _ _
        exact trivial
      · rintro i d x σ H9 H10 hi9 ⟨found, here, o11, o12, o13, rfl, s9, inn9, I9, l4, l5⟩ s10 rfl
        have hlt9 := (List.getElem?_eq_some_iff.mp hi9).1
        rw [List.length_range] at hlt9
        have ei := (List.getElem?_eq_some_iff.mp hi9).2
        rw [List.getElem_range] at ei
        subst ei
        generalize esp : lo - ((last : Int) - (tk : Nat)) + (i : Nat) = sp at I9 ⊢
        have inn10 := inn9.same s10
        have s010 := s9.trans s10
        have inn10' := inn10
        obtain ⟨b1, b2, b3, b4, dx9, t9, u9, v9, b5, b6⟩ := inn10'
        have esp2 : lo - ((last : Int) - (tk : Nat)) + ((i + 1 : Nat) : Int) = sp + 1 := by omega
        refine ⟨_, rfl, _, rfl, _, _, rfl, rfl, _, _, rfl, rfl, (by show (0 : Int) < 2; decide), _, rfl, la0, _, ldx, _, _, rfl, s010 _ _ g1, T.c_Look, T.a_Look_colour, rfl, rfl, _, rfl, ?_⟩
        by_cases hc : (sp + (tk : Nat)) % 2 = c
        · refine dT (congrArg V.int hc) ?_
          refine ⟨_, rfl, he, rfl, isd_tab b2, _, rfl, _, dg_tab b2, _, _, getD_tab, rfl, (by show (0 : Int) < 2; decide), ?_⟩
          refine ⟨_, rfl, _, rfl, (by show 2 ≤ sizeLine; decide), fun p11 hp11 => ⟨_, rfl, W, _, rfl, DGet.t (k := wKey sp tk) ((same_new hp11) _ _ (s010 _ _ gW)) upd_same, .inr ⟨_, rfl, rfl, _, rfl, ?_⟩⟩⟩
          rw [gw sp tk]
          have s11 := same_new (o := .tup [.int sp, .int (tk : Nat)]) hp11
          have inn11 := inn10.same s11
          have s011 := s010.trans s11
          change (if (!decide (V.int (gets here sp % 2) = V.int (if Wish rows last c sp tk = true then 1 else 0))) = true then _ else _)
          generalize (upd H10 p11 (.tup [.int sp, .int (tk : Nat)])) = H11 at inn11 s011 ⊢
          by_cases hw : gets here sp % 2 = (if Wish rows last c sp tk = true then 1 else 0)
          · rw [decide_eq_true (congrArg V.int hw)]
            refine iteF ⟨found, here, _, _, _, rfl, s011, inn11, ?_, by omega, by omega⟩
            rw [esp2]
            exact I9.pass fun _ => hw
          · rw [decide_eq_false (fun e => hw (by injection e))]
            refine iteT ?_
            obtain ⟨b1, b2, b3, b4, dx9, t9, u9, v9, b5, b6⟩ := inn11
            refine ⟨_, rfl, fo, rfl, isd_tab b1, _, rfl, _, rfl, _, _, rfl, rfl, _, dg_tab b1, _, rfl, _, _, rfl, rfl, ⟨by omega, by omega, by decide⟩, _, _, getD_tab, rfl, ?_⟩
            refine ⟨_, rfl, _, rfl, _, rfl, _, _, rfl, rfl, fo, _, rfl, dp_tab (v := gets found (sp + (tk : Nat)) + 1 * 2 ^ ((tk : Nat) : Int).toNat) b1 (by omega), ?_⟩
            rw [Int.one_mul, Int.toNat_natCast]
            have inn12 := Inn.up1 (f2 := putI found (sp + (tk : Nat)) (gets found (sp + (tk : Nat)) + 2 ^ tk)) ⟨b1, b2, b3, b4, dx9, t9, u9, v9, b5, b6⟩
            have s012 := same_put (o := .dK (tabV V.int (putI found (sp + (tk : Nat)) (gets found (sp + (tk : Nat)) + 2 ^ tk)))) s011 hfo0
            generalize (upd H11 fo (.dK (tabV V.int (putI found (sp + (tk : Nat)) (gets found (sp + (tk : Nat)) + 2 ^ tk))))) = H12 at inn12 s012 ⊢
            refine ⟨_, rfl, sh, _, rfl, SqL.of inn12.2.2.2.1, for_src (Src.enum (K := K) (a := sh) (xs := (shares tk).map V.int)) (fun j σ H' => ∃ o12 o13, σ = [some (.ref la0), some z, some (.ref W), some (.int lo), some (.int hi), some (.ref fo), some (.ref a), some (.ref sh), some (.int (tk : Nat)), some (.ref he), some (.int ((last : Int) - (tk : Nat))), some (.int sp), o12, o13] ∧
              Same H H' ∧ Inn K H' fo he sh a tk (putI found (sp + (tk : Nat)) (gets found (sp + (tk : Nat)) + 2 ^ tk)) (laid here sp ((shares tk).take j) 0) hands) ?_ ?_ ?_ ?_⟩
            · exact ⟨_, _, rfl, s012, inn12⟩
            · rintro j σ H' _ ⟨_, _, rfl, _, inn⟩
              exact SqL.of inn.2.2.2.1
            · rintro j d x σ H13 H14 hj ⟨o12, o13, rfl, s13, inn13⟩ s14 ⟨T1, y, rfl, hy, hT1⟩
              have ej := (List.getElem?_eq_some_iff.mp hj).2
              rw [List.getElem_range] at ej
              subst ej
              rw [List.getElem?_map] at hy
              obtain ⟨m, hm, rfl⟩ := Option.map_eq_some_iff.mp hy
              have inn14 := inn13.same s14
              have inn14' := inn14
              obtain ⟨d1, d2, d3, d4, _⟩ := inn14'
              have ll := laid_len ((shares tk).take j) here sp 0
              have lt : ((shares tk).take j).length ≤ tk + 1 := by rw [List.length_take, shares_len]; omega
              refine ⟨T1, _, rfl, SqT.of hT1, rfl, _, _, rfl, _, _, rfl, rfl, ?_⟩
              refine ⟨_, rfl, he, rfl, isd_tab d2, _, rfl, _, rfl, _, _, rfl, rfl, .inl ⟨by omega, by omega⟩, _, _, rfl, rfl, _, dg_tab d2, _, rfl, _, _, getD_tab, rfl, ?_⟩
              refine ⟨_, rfl, _, rfl, _, rfl, _, _, rfl, rfl, .inl ⟨by omega, by omega⟩, _, _, rfl, rfl, he, _, rfl, dp_tab (v := gets (laid here sp ((shares tk).take j) 0) (sp + 2 * (j : Nat)) + m) d2 (by omega), ?_⟩
              refine ⟨_, _, rfl, same_put (s13.trans s14) hhe0, ?_⟩
              rw [laid_at _ _ _ _ _ _ hm, Nat.zero_add]
              exact Inn.up2 inn14
            · rintro σ H' ⟨o12, o13, rfl, s15, inn15⟩
              rw [List.length_range, List.length_map, List.take_length] at inn15
              have ll := laid_len (shares tk) here sp 0
              have lf := length_put (L := found) (k := sp + (tk : Nat)) (v := gets found (sp + (tk : Nat)) + 2 ^ tk)
              rw [shares_len] at ll
              refine ⟨_, _, _, _, _, rfl, s15, inn15, ?_, by omega, by omega⟩
              rw [esp2]
              exact I9.turn (by omega) ⟨by omega, by omega⟩ hc hw
        · refine dFa (fun e => hc (by injection e)) (iteF ⟨found, here, _, _, _, rfl, s010, inn10, ?_, by omega, by omega⟩)
          rw [esp2]
          exact I9.pass fun e => absurd e hc
      · rintro σ H9 ⟨found, here, o11, o12, o13, rfl, s9, inn9, I9, l4, l5⟩
        rw [List.length_range] at I9 l4 l5
        obtain ⟨b1, b2, b3, b4, dx9, t9, u9, v9, b5, b6⟩ := inn9
        refine ⟨_, rfl, _, rfl, .inr (.inr (.inl ⟨rfl, .inl ⟨_, b2⟩⟩)), he, _, rfl, rfl, b2, fun p hp => ⟨p, he, here, rfl, upd_same, (same_new hp) _ _ b2, fun H10 l as L' s10 pm hl' pr => ⟨l, _, rfl, SqL.of hl', fun l2 o2 hl2 ho2 => ?_⟩⟩⟩
        have s12 := ((same_new (o := L2.DX.itemsO p he) hp).trans s10).trans (same_new (o := .frz o2 (.tup (as.map V.ref))) hl2)
        have hz12 : Hz K (upd H10 l2 (.frz o2 (.tup (as.map V.ref)))) (.ref l2) L' := ⟨l2, o2, as, rfl, ho2, upd_same, pairs_flip (same_new hl2) pr⟩
        generalize (upd H10 l2 (.frz o2 (.tup (as.map V.ref)))) = H12 at s12 hz12 ⊢
        refine ⟨_, rfl, a, _, dx9, _, _, rfl, s12 _ _ b5, T.c_Line, T.a_Line_lefts, rfl, _, _, _, L', hands, rfl, hz12, b6.same s12, fun a2 H13 s13 ha2 la2 => ?_⟩
        refine ⟨_, rfl, sh, shares tk, rfl, SqL.of ((s12.trans s13) _ _ b4), by rw [shares_len]; omega, fun D H14 s14 hD gD => ⟨_, _, rfl, ?_⟩⟩
        have la14 := la2.same s14
        obtain ⟨dx14, u14, v14, c1, c2, c3⟩ := la14
        have nL : (L'.map (·.1)).Nodup := ((pm.map (·.1)).nodup_iff).mpr I9.hn
        have pL : ∀ p ∈ L', 0 ≤ p.2 := fun p hp => I9.hp p (pm.subset hp)
        have lL := pm.length_eq
        have ln : (hi + ((last : Int) - (tk : Nat)) + 1 - (lo - ((last : Int) - (tk : Nat)))).toNat ≤ 75 := by omega
        refine ⟨_, rfl, a2, dx14, _, rfl, c1, rfl, a2, _, L', hands, rfl, ⟨dx14, u14, v14, c1, c2, c3⟩, nL, pL, hn6, by omega, by omega, fun H15 hs' ls' sx pm1 pm2 la' => ?_⟩
        obtain ⟨e1, e2, e3, e4, e5, e6, e7⟩ := tick_done hn6 nL pL pm1 pm2
        have eg : gets L' = gets here := funext fun k => gets_perm nL pm k
        have s914 := s12.trans (s13.trans s14)
        have ha20 : H a2 = none := none_back (s9.trans s12) ha2
        have s015 : Same H H15 := fun b o e => sx b o (ne_of_none e ha20) ((s9.trans s914) b o e)
        refine ⟨a2, D, hs', ls', found, _, _, _, _, _, _, rfl, s015, sx _ _ (ne_of_none (s12 _ _ b1) ha2) (s914 _ _ b1), ?_, la', ?_, e4, ?_, ?_, ?_⟩
        · rw [shares_next]
          exact sx _ _ (ne_of gD c1 (by simp)) gD
        · refine TickInv.next (here := here) (hands := hands) ?_ e3 (fun p hp => by have := e5 p hp; omega) (fun x => ?_) (fun y => ?_)
          · rw [show hi + ((last : Int) - (tk : Nat)) + 1 = lo - ((last : Int) - (tk : Nat)) + (((hi + ((last : Int) - (tk : Nat)) + 1 - (lo - ((last : Int) - (tk : Nat)))).toNat : Nat) : Int) from by omega]
            exact I9
          · rw [e1, eg]
          · rw [e2, eg]
        · rw [Nat.pow_succ]; omega
        · rw [Nat.pow_succ]; omega
        · omega
    · rintro σ H6 ⟨a, sh, hs, hands, found, o8, o9, o10, o11, o12, o13, rfl, s6, gf6, gs6, la6, I, hn6, l1, l2, l3⟩
      rw [List.length_range, Int.toNat_natCast] at I
      refine ⟨_, rfl, .inr (.inr (.inl ⟨rfl, .inl ⟨_, gf6⟩⟩)), fo, _, rfl, rfl, gf6, fun p hp => ⟨p, fo, found, rfl, upd_same, (same_new hp) _ _ gf6, fun H10 l as L' s10 pm hl' pr => ⟨l, _, rfl, SqL.of hl', fun l2 o2 hl2 ho2 => ?_⟩⟩⟩
      have s12 := ((same_new (o := L2.DX.itemsO p fo) hp).trans s10).trans (same_new (o := .frz o2 (.tup (as.map V.ref))) hl2)
      refine k _ _ L' (s6.trans s12) ⟨l2, o2, as, rfl, ho2, upd_same, pairs_flip (same_new hl2) pr⟩ ?_
      exact worst_madeM nr (by omega) h01 (fun r hr => ⟨(hall r hr).1, (hall r hr).2, (nr r hr).2.2⟩) blo.1 bhi.2 I (by omega) pm hLw
end
end Nw
namespace Nw
open PySem PySem.Spec PyProof.Rows L2 Nd
section
variable {X : Cx} {tg : Expr}
/-- over a tuple or a list -/
def iLT (K : PySem.W.Frag) (tl : TE) : TI := fun σ H R => tl σ H fun x H1 => ∃ a, x = .ref a ∧ (((∃ xs, SqT K H1 a xs) ∧ R (Itt K a) H1) ∨ ((∃ xs, SqL K H1 a xs) ∧ R (Itl K a) H1))
theorem pi_lt {l : Expr} {tl : TE} (hl : PE X l tl) : PI X tg l (iLT X.K tl) := by
  refine ⟨fun pins s σ H R I h => ?_⟩
  refine thn (hl.run pins s σ H _ I h) fun v s1 ⟨x, H1, I1, r1, q1⟩ => ?_
  obtain ⟨a, e, q⟩ := q1
  subst e
  cases r1
  rcases q with ⟨⟨xs, hq⟩, q⟩ | ⟨⟨xs, hq⟩, q⟩
  · obtain ⟨its, rv, p, hz⟩ := I1.tuple hq
    refine wpAny_pyIter_tuple (show s1.heap.IsTuple a its.toArray from p) ?_
    refine ⟨s1.heap.objs.size, [s1.heap.objs.size], _, _, H1, rfl, I1.kept (t' := s1.toks) fun b o e => Heap.get?_push_of_some _ e, turn_tuple a _, ⟨_, Heap.get?_push_size _ rfl, rfl, rfl⟩, fun b hb => ?_, q⟩
    have e : b = s1.heap.objs.size := by simpa using hb
    subst e
    exact I1.fpOk (Nat.le_refl _) (I1.hok.fresh (Nat.le_refl _))
  · obtain ⟨its, rv, p, hz⟩ := I1.list hq
    refine wpAny_pyIter_list p.isList ?_
    refine ⟨s1.heap.objs.size, [s1.heap.objs.size], _, _, H1, rfl, I1.kept (t' := s1.toks) fun b o e => Heap.get?_push_of_some _ e, turn_list a _, ⟨_, Heap.get?_push_size _ rfl, rfl, rfl⟩, fun b hb => ?_, q⟩
    have e : b = s1.heap.objs.size := by simpa using hb
    subst e
    exact I1.fpOk (Nat.le_refl _) (I1.hok.fresh (Nat.le_refl _))
end
theorem Src.pt {α : Type} {K : PySem.W.Frag} {a : Addr} {ys : List V} {ds : List α} {R : α → V → Hp → Prop} : Src (Itt K a) (fun H => SqT K H a ys ∧ Paired (fun d y => R d y H) ds ys) ds R where
  go := fun i H h hi => by
    have := paired_len h.2
    exact ⟨ys, ys[i]'(by omega), h.1, List.getElem?_eq_getElem _⟩
  stop := fun H h => ⟨ys, h.1, by rw [paired_len h.2]; exact Nat.le_refl _⟩
  yld := fun i d x H H' h e y => by
    obtain ⟨v, h1, h2⟩ := L2.paired_get h.2 e
    have e2 := y.2 _ h.1
    rw [h1] at e2
    cases e2
    exact ⟨same_eq y.1, by rw [y.1]; exact h2⟩
theorem Paired.tp {K : PySem.W.Frag} {H : Hp} : ∀ {ds : List PyData} {ys : List V}, Paired (fun d y => Tp K H y d) ds ys → TpAll K H ys ds
  | _, _, .nil => .nil
  | _, _, .cons h t => .cons h (Paired.tp t)
theorem kit_li {K : PySem.W.Frag} : PySem.W.kitAny K (.type "int") [.type "list", .type "tuple"] = some false :=
  kitAny_cons (b := false) (kit_ty (by decide +kernel)) (fun _ => kitAny_cons (b := false) (kit_ty (by decide +kernel)) (fun _ => rfl) (fun h => by cases h)) (fun h => by cases h)
/-- a value of tuples and lists of ints, n deep, and what it tells -/
def FixIn (K : PySem.W.Frag) : Nat → Hp → V → PyData → Prop
  | 0, _, _, _ => False
  | n + 1, H, v, d => (∃ i, v = .int i ∧ d = .int i) ∨ ∃ a xs ds, v = .ref a ∧ (SqT K H a xs ∨ SqL K H a xs) ∧ d = .tuple ds ∧ xs.length ≤ 1000000 ∧ Paired (fun d x => FixIn K n H x d) ds xs
theorem FixIn.same {K : PySem.W.Frag} : ∀ {n : Nat} {H H' : Hp} {v : V} {d : PyData}, FixIn K n H v d → Same H H' → FixIn K n H' v d
  | 0, _, _, _, _, h, _ => h
  | n + 1, _, _, _, _, h, s => h.imp id fun ⟨a, xs, ds, e, q, e2, l, p⟩ => ⟨a, xs, ds, e, q.imp (same_t s) (same_l s), e2, l, L2.Paired.mapP p fun _ _ z => z.same s⟩
section
variable {P : Program} {w : World} {K : PySem.W.Frag} {mg : Str → Option Value} {base : Heap}
theorem Ok.never {k : Nat} {x qual : Str} {st : Stmt} {f : Addr} {ps : List Str} (F : ∃ fd, FunD K x qual (defArgs st) (defBody st) (defScope st) [] [] f fd)
    (hb : ∀ (kV doc pm : Value) (an : Option Addr) (cdv ct : Value) (us : List Value), us.length = ps.length → bindArgs (PySem.W.fnOf x qual (defArgs st) (defBody st) (defScope st) .none kV doc pm an cdv ct) ⟨us, []⟩ = pure (ps.zip us)) : Ok P w K mg base k f ps (fun _ _ _ _ => False) := by
  obtain ⟨fd, F⟩ := F
  exact ⟨F.kp, fd, ⟨fun _ _ _ _ h => h.elim, fun _ _ _ _ _ _ _ _ _ _ _ _ _ h => h.elim⟩, F.bindsN hb⟩
abbrev N_fixed : List Str := ["value", "each"]
theorem sc_fixed : FnScope N_fixed ["value"] (defScope s_fixed) := ⟨rfl, rfl, rfl, by decide +kernel, rfl, by decide +kernel, by decide +kernel⟩
def sp_fixed (K : PySem.W.Frag) (n : Nat) : Sp := fun vs H Q _ => ∃ v d, vs = [v] ∧ FixIn K n H v d ∧ ∀ v' H', Same H H' → Tp K H' v' d → Q v' H'
theorem O_fixed1 (T : Tx K mg) (k : Nat) (sp : Sp) (O_fixed : Ok P w K mg base k (He.ga K "fixed") ["value"] sp) (n : Nat) (hsp : ∀ v d H Q, FixIn K n H v d → (∀ v' H', Same H H' → Tp K H' v' d → Q v' H') → sp [v] H Q E0) : Ok P w K mg base (k + 1) (He.ga K "fixed") ["value"] (sp_fixed K (n + 1)) := by
  refine Ok.mk T.f_fixed sc_fixed (fun vs H Q E h => ?_) (fun _ _ _ _ _ _ us hl => match us, hl with | [_], _ => rfl) (fun cdv A outer s H vs Q E hr h => ?_)
  · obtain ⟨v, d, rfl, _⟩ := h; rfl
  · obtain ⟨v, d, rfl, hv, k⟩ := h
    refine ⟨_, (pss_one (ps_ret (pe_ifExp (pt_val (pe_callB call_isiT (by rfl) T.z_isinstance (by decide +kernel) (pa_cons (pv 0) (pa_cons (pe_tup (pa_cons (pe_bltn (v := .ty "list") (by rfl) T.z_list (by decide +kernel) rfl) (pa_cons (pe_bltn (v := .ty "tuple") (by rfl) T.z_tuple (by decide +kernel) rfl) pa_nil))) pa_nil)))) (pe_callTy call_tupZ (by rfl) T.z_tuple (by decide +kernel) (pa_cons (pe_lc (own := [("each", 1)]) rfl sc_fixed.nd (pi_lt (pv 0)) (blkOk_by (N := N_fixed) (sc := defScope s_fixed) (by decide +kernel)) (fun _ _ _ _ _ => (pg_name (i := 1) sc_fixed.nd rfl (.inl rfl) (by first | exact .inl rfl | exact .inr rfl))) (fun _ _ _ _ _ => pts_nil) (fun _ _ _ _ _ => (pe_fn O_fixed hr T.g_fixed (pa_cons (pv 1) pa_nil)))) pa_nil)) (pv 0)))), ?_⟩
    refine ⟨_, rfl, (by show 2 ≤ sizeLine; decide), fun p1 hp1 => ?_⟩
    have s1 : Same H (upd H p1 (.tup [.ty "list", .ty "tuple"])) := same_new hp1
    rcases hv with ⟨i, rfl, rfl⟩ | ⟨a, xs, ds, rfl, hq, rfl, hl, hp⟩
    · exact ⟨_, _, _, _, _, false, rfl, upd_same, cls_lt, .base (.int i), kit_li, _, rfl, iteF ⟨_, rfl, k _ _ s1 (.int i)⟩⟩
    · have step : ∀ D, upd H p1 (.tup [.ty "list", .ty "tuple"]) D = none → ∀ {J : It} {G : Hp → Prop}, Src J G ds (fun d x H => FixIn K n H x d) → (∀ H', Same H H' → G H') → _ := fun D hD J G S hG =>
        lc_src S (K := K) (g := gName 1) (tt := tYes) (te := tCall sp [] E0 (tCons (tVar 1) tNil)) (vs := [1]) (σ := L2.start N_fixed [V.ref a]) hD (Qd := fun H' => ∃ p ys, [V.ref D] = [V.ref p] ∧ SqL K H' p ys ∧ ∀ l o, H' l = none → o.dict = none → Q (.ref l) (upd H' l (.frz o (.tup ys)))) (fun d y H => Tp K H y d) (fun _ => true) (fun H' s2 => hG H' (s1.trans s2)) (fun _ _ _ _ s h => Tp.stay s h) (by rw [paired_len hp]; exact hl) (fun i d y H2 Q1 Q0 s2 hi hy k1 _ => ⟨rfl, yes_ ⟨_, rfl, hsp _ _ _ _ hy fun v' H' s3 t3 => k1 rfl _ _ s3 t3⟩⟩) (fun H2 ys s2 hD2 hp2 => by
          rw [List.filter_eq_self.mpr (by simp)] at hp2
          exact ⟨D, ys, rfl, SqL.of hD2, fun l o hl ho => k _ _ ((s1.trans s2).trans (same_new hl)) (.tup (.inl (.inr ⟨o, upd_same⟩)) ((Paired.tp hp2).same (same_new hl)))⟩)
      rcases hq with hq | hq
      · exact ⟨_, _, _, _, _, true, rfl, upd_same, cls_lt, ty_tup (same_t s1 hq), kit_lt, _, rfl, iteT ⟨_, rfl, a, rfl, .inl ⟨⟨_, same_t s1 hq⟩, fun D hD => step D hD (Src.pt (K := K) (a := a) (ys := xs)) fun H' s => ⟨same_t s hq, L2.Paired.mapP hp fun _ _ z => z.same s⟩⟩⟩⟩
      · exact ⟨_, _, _, _, _, true, rfl, upd_same, cls_lt, ty_lst (same_l s1 hq), kit_ll, _, rfl, iteT ⟨_, rfl, a, rfl, .inr ⟨⟨_, same_l s1 hq⟩, fun D hD => step D hD (Src.pl (K := K) (a := a) (ys := xs)) fun H' s => ⟨same_l s hq, L2.Paired.mapP hp fun _ _ z => z.same s⟩⟩⟩⟩
theorem O_fixed (T : Tx K mg) : ∀ n, Ok P w K mg base n (He.ga K "fixed") ["value"] (sp_fixed K n)
  | 0 => Ok.imp (Ok.never T.f_fixed (fun _ _ _ _ _ _ us hl => match us, hl with | [_], _ => rfl)) fun _ _ _ _ ⟨_, _, _, h, _⟩ => h
  | n + 1 => O_fixed1 T n _ (O_fixed T n) n fun v d H Q h k => ⟨v, d, rfl, h, k⟩
end
end Nw
namespace Nw
open PySem PySem.Spec PyProof.Rows L2 Nd
theorem FixIn.sx {K : PySem.W.Frag} {x C dx : Addr} {fs : List (Str × V)} : ∀ {n : Nat} {H H' : Hp} {v : V} {d : PyData}, FixIn K n H v d → SameX x H H' → H x = some (.ins C dx fs) → FixIn K n H' v d
  | 0, _, _, _, _, h, _, _ => h
  | n + 1, H, H', _, _, h, s, e => h.imp id fun ⟨a, xs, ds, e1, q, e2, l, p⟩ => ⟨a, xs, ds, e1, q.imp ((s.stay e).1 _ _) (fun h => by
      rcases h with (h | ⟨o, h⟩) | h
      · exact .inl (.inl (s _ _ (fun ea => by rw [ea, e] at h; cases h) h))
      · exact .inl (.inr ⟨o, s _ _ (fun ea => by rw [ea, e] at h; cases h) h⟩)
      · exact .inr h), e2, l, L2.Paired.mapP p fun _ _ z => z.sx s e⟩
section
variable {P : Program} {w : World} {K : PySem.W.Frag} {mg : Str → Option Value} {base : Heap}
abbrev N_Paper_init : List Str := ["self", "word", "parts"]
theorem sc_Paper_init : FnScope N_Paper_init ["self", "word", "parts"] (defScope s_Paper_init) := ⟨rfl, rfl, rfl, by decide +kernel, rfl, by decide +kernel, by decide +kernel⟩
/-- Paper.__init__(self, word, *parts): at self's turn, parts a tuple -/
def sp_paper (K : PySem.W.Frag) (C : Addr) : Sp := fun vs H Q _ => ∃ (x dx p : Addr) (wd : Str) (d : PyData), vs = [.ref x, .str wd, .ref p] ∧ H x = some (.ins C dx []) ∧ FixIn K 4 H (.ref p) d ∧ ∀ v H' , SameX x H H' → H' x = some (.ins C dx [("word", .str wd), ("parts", v)]) → Tp K H' v d → Q .non H'
theorem bind_star {x qual : Str} {kV doc pm : Value} {an : Option Addr} {cdv ct : Value} (us rest : List Value) (hl : us.length = 2) : bindArgs (PySem.W.fnOf x qual (defArgs s_Paper_init) (defBody s_Paper_init) (defScope s_Paper_init) .none kV doc pm an cdv ct) ⟨us ++ rest, []⟩ = (newTuple rest >>= fun t => pure ((["self", "word"] : List Str).zip us ++ [(("parts" : Str), t)])) :=
  match us, hl, rest with
  | [a, b], _, [] => rfl
  | [a, b], _, c :: r => by
    unfold bindArgs
    have e : (decide (([a, b] ++ c :: r).length > 2) && false) = false := Bool.and_false _
    rfl
theorem R_Paper_init (T : Tx K mg) : FnR P w K mg base CX0 6 (He.ma K (He.ga K "Paper") "__init__") (fun vs H Q E => ∃ ws rest, vs = ws ++ rest ∧ ws.length = 2 ∧ rest.length ≤ sizeLine ∧ ∀ p, H p = Option.none → sp_paper K (He.ga K "Worst") (ws ++ [V.ref p]) (upd H p (.tup rest)) Q E) := by
  have O_fixed := O_fixed (P := P) (w := w) (base := base) T 4
  obtain ⟨fd, F⟩ := T.f_Paper_init
  obtain ⟨oc, od, dV, kV, doc, pm, an, cdv, ct, osl, rfl, lk, hcd, hD, _⟩ := F.ex
  refine StX.fn_star (k := 5) (N := N_Paper_init) (ps := ["self", "word"]) (pv := "parts") (sp := sp_paper K (He.ga K "Worst")) lk hcd sc_Paper_init StX.cxUp_none ?_ fun A outer s H vs Q E hr h => ?_
  · intro us rest hl
    rcases hD with ⟨_, rfl⟩ | ⟨e, _⟩
    · exact bind_star us rest hl
    · exact absurd rfl e
  · obtain ⟨x, dx, p, wd, d, rfl, hx, hf, k⟩ := h
    suffices g : ∃ t, PSs (cxOf CX0 P w K mg base N_Paper_init "Paper.__init__" (defScope s_Paper_init) (He.ma K (He.ga K "Paper") "__init__") cdv A outer s H E).nox (defBody s_Paper_init) t ∧ t { nx := fun _ H' => Q .non H', rt := Q } (L2.start N_Paper_init [.ref x, .str wd, .ref p]) H from by
      obtain ⟨t, h1, h2⟩ := g
      exact ⟨t, PSs.nox h1, h2⟩
    refine ⟨_, (pss_cons (ps_fld (pv 0) (pv 1) rfl)
      (pss_one (ps_fld (pv 0) (pe_fn O_fixed (hr.mono (by decide)) T.g_fixed (pa_cons (pv 2) pa_nil)) rfl))), ?_⟩
    refine ⟨_, rfl, _, rfl, x, _, dx, _, rfl, hx, T.c_Worst, T.a_Worst_word, (by show 0 < 1000; decide), ?_⟩
    have sx : SameX x H (upd H x (.ins (He.ga K "Worst") dx [("word", .str wd)])) := SameX.upd
    refine ⟨_, rfl, _, d, rfl, hf.sx sx hx, fun v H1 s1 tv => ?_⟩
    have h1 := s1 _ _ (upd_same (H := H) (a := x) (o := .ins (He.ga K "Worst") dx [("word", .str wd)]))
    have sx2 : SameX x H1 (upd H1 x (.ins (He.ga K "Worst") dx [("word", .str wd), ("parts", v)])) := SameX.upd
    exact ⟨_, rfl, x, _, dx, _, rfl, h1, T.c_Worst, T.a_Worst_parts, (by show 1 < 1000; decide), k v _ ((sx.trans (SameX.of s1)).trans sx2) upd_same (Tp.stay (sx2.stay h1) tv)⟩
end
end Nw
namespace Nw
open PySem PySem.Spec PyProof.Rows L2 Nd
section
variable {X : Cx} {pos : Pos}
/-- o.f = .. as a target -/
def gFld (K : PySem.W.Frag) (to : TE) (f : Str) : TG := fun v σ H Q => to σ H fun x H1 => ∃ a C dx fs, x = .ref a ∧ H1 a = some (.ins C dx fs) ∧ Cls K C ∧ NoAttr K C f ∧ fs.length < 1000 ∧ Q σ (upd H1 a (.ins C dx (putF f v fs)))
theorem pg_fld {o : Expr} {to : TE} {f : Str} (ho : PE X o to) : PG X (.Attribute o f pos) (gFld X.K to f) := by
  refine ⟨fun pins s σ H v u Q I r h => ?_⟩
  rw [assign_Attribute]
  refine wpAny_bind (wpAny_holding (thn (ho.run pins s σ H _ I h) fun ov s1 ⟨x, H1, I1, r1, a, C, dx, fs, ex, ea, c, n, l, q⟩ => ?_))
  subst ex
  obtain rfl : ov = Value.ref a := r1
  refine wpAny_bind (wpAny_standAt (wpAny_bind (wpAny_holding (setattr_ok I1 ea c n l r fun s3 I3 => ?_))))
  exact wpAny_release ⟨σ, _, I3, q⟩
end
/-- what the head tells, Worst.__init__ too -/
structure Tx2 (P : Program) (K : PySem.W.Frag) (mg : Str → Option Value) : Prop extends Tx K mg where
  wo : wsObs K = wsVal
  wb : wsB K = true
  wc : wsC K = true
  pf : P.main.file = PySem.Challenge.pw_nodice_k56_whole_worst_starts_turned_and.main.file
  pt : (P.main.scope.names.lookup ("super" : Str)).isSome = false
section
variable {P : Program} {K : PySem.W.Frag} {mg : Str → Option Value}
theorem Tx2.fn (T : Tx2 P K mg) : ∃ (oc : Value) (od : Option Addr) (osl : Array (Option Value)) (kV doc pm : Value) (an : Option Addr) (ct : Value) (cc c : Addr) (ccl : Value) (cdd : Option Addr) (csl : Array (Option Value)) (vs : Array Value) (n : Str) (t : Tok) (xcl : Value) (xd : Option Addr) (xsl : Array (Option Value)),
    K.lookup (wsF K) = some ⟨oc, od, .func (PySem.W.fnX "__init__" "Worst.__init__" (defArgs s_Worst_init) (defBody s_Worst_init) (defScope s_Worst_init) [("__class__", cc)] .none kV doc pm an (.ref c) ct), osl⟩ ∧ PySem.W.codeIn K (.ref c) "Worst.__init__" = true ∧
    K.lookup c = some ⟨ccl, cdd, .fields vs, csl⟩ ∧ vs[2]? = some (.str n t) ∧ ((P.main.file : Str) == n) = true ∧ K.lookup cc = some ⟨xcl, xd, .cell (some (.ref (He.ga K "Worst"))), xsl⟩ := by
  have wo := T.wo
  have wb := T.wb
  unfold wsObs at wo
  unfold wsB at wb
  cases q : K.lookup (wsF K) with
  | none => rw [q] at wb; cases wb
  | some o =>
    obtain ⟨oc, od, dt, osl⟩ := o
    rw [q] at wo wb
    cases dt with
    | func fd =>
      obtain ⟨n1, n2, n3, n4, n5, n6, n7, n8, n9, n10, n11, n12, n13, n14, n15⟩ := fd
      have e2 : (some (n1, n2, n3, n4, n5, n6, n7.map (·.1), n8, n15) : WsV) = wsVal := wo
      unfold wsVal at e2
      simp only [Option.some.injEq, Prod.mk.injEq] at e2
      obtain ⟨h1, h2, h3, h4, h5, h6, h7, h8, h9⟩ := e2
      obtain ⟨b1, b⟩ := He.ba wb
      obtain ⟨b2, b3⟩ := He.ba b
      dsimp only at b1 b2 b3
      match n7, h7, b2 with
      | [(y, cc)], h7, b2 =>
        simp only [List.map_cons, List.map_nil, List.cons.injEq, and_true] at h7
        subst h1 h2 h3 h4 h5 h6 h7 h8 h9
        match n13, b3, b1 with
        | .ref c, b3, b1 =>
          dsimp only at b2 b3
          cases qc : K.lookup c with
          | none => rw [qc] at b3; cases b3
          | some oo =>
            obtain ⟨ccl, cdd, dt2, csl⟩ := oo
            rw [qc] at b3
            cases dt2 with
            | fields vs =>
              dsimp only at b3
              cases qv : vs[2]? with
              | none => rw [qv] at b3; cases b3
              | some v2 =>
                rw [qv] at b3
                cases v2 with
                | str n t =>
                  cases qx : K.lookup cc with
                  | none => rw [qx] at b2; cases b2
                  | some ox =>
                    obtain ⟨xcl, xd, dx3, xsl⟩ := ox
                    rw [qx] at b2
                    cases dx3 with
                    | cell cv =>
                      cases cv with
                      | none => cases b2
                      | some cv =>
                        cases cv with
                        | ref D =>
                          have eD : D = He.ga K "Worst" := of_decide_eq_true b2
                          subst eD
                          exact ⟨oc, od, osl, n9, n10, n11, n12, n14, cc, c, ccl, cdd, csl, vs, n, t, xcl, xd, xsl, rfl, b1, qc, qv, by rw [T.pf]; exact b3, qx⟩
                        | _ => cases b2
                    | _ => cases b2
                | _ => cases b3
            | _ => cases b3
    | _ => cases wb
end
abbrev worstF (t y z : V) : List (Str × V) := [("word", .str "worst"), ("parts", t), ("heaps", y), ("lefts", z)]
section
variable {P : Program} {w : World} {K : PySem.W.Frag} {mg : Str → Option Value} {base : Heap}
abbrev N_Worst_init : List Str := ["self", "heaps", "lefts", "__class__"]
theorem sc_Worst_init : NdefX.NScope N_Worst_init ["self", "heaps", "lefts"] ["__class__"] (defScope s_Worst_init) := NdefX.nscope_by (by decide +kernel)
def sp_worstInit (K : PySem.W.Frag) : Sp := fun vs H Q _ => ∃ (x dx : Addr) (u v : V) (d1 d2 : PyData), vs = [.ref x, u, v] ∧ H x = some (.ins (He.ga K "Worst") dx []) ∧ FixIn K 3 H u d1 ∧ FixIn K 3 H v d2 ∧
  ∀ H' t y z, SameX x H H' → H' x = some (.ins (He.ga K "Worst") dx (worstF t y z)) → Tp K H' y d1 → Tp K H' z d2 → Q .non H'
theorem O_Worst_init (T : Tx2 P K mg) : Ok P w K mg base 8 (wsF K) ["self", "heaps", "lefts"] (sp_worstInit K) := by
  have RP := R_Paper_init (P := P) (w := w) (base := base) T.toTx
  obtain ⟨oc, od, osl, kV, doc, pm, an, ct, cc, c, ccl, cdd, csl, vs2, n, tk, xcl, xd, xsl, lk, hcd, lc, hv2, hn, lcc⟩ := T.fn
  obtain ⟨w1, wc⟩ := He.ba T.wc
  obtain ⟨w2, wc⟩ := He.ba wc
  obtain ⟨w3, wc⟩ := He.ba wc
  obtain ⟨w4, wc⟩ := He.ba wc
  obtain ⟨w5, wc⟩ := He.ba wc
  obtain ⟨w6, w7⟩ := He.ba wc
  obtain ⟨cdD, hcD⟩ := Option.isSome_iff_exists.mp w1
  refine ⟨w7, PySem.W.fnX "__init__" "Worst.__init__" (defArgs s_Worst_init) (defBody s_Worst_init) (defScope s_Worst_init) [("__class__", cc)] .none kV doc pm an (.ref c) ct, ⟨fun vs H Q E h => ?_, fun A outer s H args us vs Q E hr e0 hb r hsp => ?_⟩, .all fun us hl => ?_⟩
  · obtain ⟨x, dx, u, v, d1, d2, rfl, _⟩ := h; rfl
  · obtain ⟨x, dx, u, v, d1, d2, rfl, hx, f1, f2, k⟩ := hsp
    have KX : K.In s.heap := e0.mod.kin.keeps fun b o e => (e0.bs b o e).1
    have lim : s.heap.NoLimit := e0.mod.nolimit.keeps fun b o e => (e0.bs b o e).1
    refine codeAny_call_function hr.depth (KX _ _ lk) rfl sc_Worst_init.co sc_Worst_init.gen rfl (PySem.W.codeRec_of KX hcd) (hb _ _ _ _ ?_)
    refine wpAny_newFunctionEnv sc_Worst_init.nocell (fun ⟨n, _⟩ hy => sc_Worst_init.par n (List.of_mem_zip hy).1) (fun h₁ hns hsb => ⟨lim.fresh _ hsb, ?_⟩) sc_Worst_init.kind
    have kp : ∀ b o, s.heap.get? b = some o → h₁.get? b = some o := fun b o e => hsb.extBut b o (Nat.ne_of_lt (Heap.lt_size e)) (Heap.get?_push_of_some _ e)
    have C : NdefX.CellsAt [("__class__", cc)] ["__class__"] [none] s.heap H := by
      have a1 : ∀ y c', ([("__class__", cc)] : List (Str × Addr)).lookup y = some c' → y = "__class__" ∧ c' = cc := fun y c' e => by
        have e1 := PySem.mem_of_lookup e
        simp only [List.mem_singleton, Prod.mk.injEq] at e1
        exact e1
      refine ⟨rfl, fun y c' e => ?_, fun y z c' e1 e2 => (a1 _ _ e1).1.trans (a1 _ _ e2).1.symm, fun i y hi => ?_⟩
      · obtain ⟨_, rfl⟩ := a1 _ _ e
        exact ⟨(e0.bs _ _ (e0.mod.kin _ _ lcc)).2, _, _, KX _ _ lcc, rfl⟩
      · match i, hi with
        | 0, hi =>
          cases Option.some.inj hi
          exact ⟨cc, rfl, fun v e => by cases Option.some.inj e⟩
        | _ + 1, hi => simp at hi
    have I := NdefX.inv_startN (CX := CX0) (E := E) (F := ⟨"__init__", "Worst.__init__", defArgs s_Worst_init, defBody s_Worst_init, defScope s_Worst_init, [("__class__", cc)], c⟩) (f := wsF K) (tk := s.toks + ((["self", "heaps", "lefts"] : List Str).zip us).length) sc_Worst_init hr.hd e0 rfl r C hns kp
    have hr1 : Room 7 (A.deeper (NdefX.envF ⟨"__init__", "Worst.__init__", defArgs s_Worst_init, defBody s_Worst_init, defScope s_Worst_init, [("__class__", cc)], c⟩ (wsF K) s.heap.objs.size)) := hr.deeper _
    show codeAny _ _ (.func (defBody s_Worst_init) (NdefX.envF ⟨"__init__", "Worst.__init__", defArgs s_Worst_init, defBody s_Worst_init, defScope s_Worst_init, [("__class__", cc)], c⟩ (wsF K) s.heap.objs.size)) _ _
    obtain ⟨u0, us1, rfl, ru0, r⟩ := vals_cons r
    obtain ⟨u1, us2, rfl, ru1, r⟩ := vals_cons r
    obtain ⟨u2, us3, rfl, ru2, r⟩ := vals_cons r
    cases r
    obtain rfl : u0 = Value.ref x := ru0
    refine ks_codeAny_funcAt ?_
    refine ks_wpAt_execs_cons ?_
    refine ks_wpAt_Expr_any ?_
    refine ks_wpAt_MethodCall ?_
    have hself : h₁.Ns s.heap.objs.size _ := hns
    obtain ⟨mA, O, _, _, _, _⟩ := ins_get I.hok hx
    obtain ⟨odx, J, _⟩ := O.look
    have K1 : K.In h₁ := I.kIn
    obtain ⟨oD, hD1, hD2⟩ : ∃ oD, h₁.get? (He.ga K "Worst") = some oD ∧ oD.data = .cls cdD := by
      unfold PySem.W.clsIn at hcD
      split at hcD
      · rename_i c0 d0 cd' sl ho
        cases hcD
        exact ⟨_, K1 _ _ ho, rfl⟩
      · cases hcD
    refine ks_wpAt_super_base (by rfl) (by rfl) (by decide) rfl (K1 _ _ lk) rfl (by rfl) rfl (K1 _ _ lc) rfl hv2 hn T.pt ?_
    refine PySem.W.ks_loadName_global (by rfl) (by rfl) ?_
    obtain ⟨mb, hb1, hb2⟩ := e0.mod.blt
    have bk : ∀ b o, base.get? b = some o → h₁.get? b = some o := fun b o e => I.bk b o e
    refine PySem.Calls.loadGlobal_builtin (e0.mod.glob.keeps bk) T.z_super (hb1.keeps bk) ((hb2 "super" (by decide)).trans (show bootBuiltins "super" = some (Value.type "super") by decide +kernel)) ⟨rfl, ?_⟩
    refine wpAny_loadName_free rfl (by rfl) rfl ⟨_, K1 _ _ lcc, rfl⟩ ?_
    refine wpAny_loadName_local rfl (by rfl) hns (v := .ref x) (by rfl) ?_
    refine ks_wpAny_isType_cls hD1 hD2 ⟨rfl, ?_⟩
    refine ks_wpAny_call_super hD1 hD2 J.at_ J.cls (fun c e => ?_) (PySem.W.looks_mroIn K1 (of_decide_eq_true w2)) (fun h2 e2 k2 => ?_)
    · have := J.no
      unfold PySem.W.notCls at this
      rw [e] at this
      exact Bool.noConfusion this
    have I2 := I.kept (t' := s.toks + ((["self", "heaps", "lefts"] : List Str).zip [Value.ref x, u1, u2]).length) k2
    have K2 : K.In h2 := I2.kIn
    have hm : PySem.W.alongIn K "__init__" ((cdD.mro.dropWhile (· != .ref (He.ga K "Worst"))).drop 1) = some (some (.ref (He.ma K (He.ga K "Paper") "__init__"))) := by
      have e := of_decide_eq_true w3
      unfold PySem.W.ks_superIn at e
      rw [hcD] at e
      exact e
    obtain ⟨of, hof, hofc⟩ : ∃ of, h2.get? (He.ma K (He.ga K "Paper") "__init__") = some of ∧ of.cls = .type "function" := by
      have ht' : (K.lookup (He.ma K (He.ga K "Paper") "__init__")).map (·.cls) = some (.type "function") := of_decide_eq_true w4
      cases z : K.lookup (He.ma K (He.ga K "Paper") "__init__") with
      | none => rw [z] at ht'; cases ht'
      | some of => rw [z] at ht'; exact ⟨of, K2 _ _ z, Option.some.inj ht'⟩
    refine ks_wpAny_getMethod_super e2 (PySem.W.looks_opaque K2 (He.eqO_ok w5)) (l₀ := cdD.mro) (fun A Q E s k q => wpAny_bind ((PySem.W.looks_clsIn K2 hcD) A _ E s k (wpAny_pure q))) rfl K2 hm hof hofc (PySem.W.ks_ne K1 J hcD) (by decide) ?_
    have hf3 : H h2.objs.size = none := I2.hok.fresh (Nat.le_refl _)
    have I3 := I2.laid (h' := h2.push (PySem.W.methodObj (.ref (He.ma K (He.ga K "Paper") "__init__")) (.ref x))) (t' := s.toks + ((["self", "heaps", "lefts"] : List Str).zip [Value.ref x, u1, u2]).length + 1) (a := h2.objs.size) (o := .met (He.ma K (He.ga K "Paper") "__init__") x) (fun b u z => Heap.get?_push_of_some _ z) (Nat.le_refl _)
      (show (h2.push (PySem.W.methodObj (.ref (He.ma K (He.ga K "Paper") "__init__")) (.ref x))).get? h2.objs.size = some (PySem.W.methodObj (.ref (He.ma K (He.ga K "Paper") "__init__")) (.ref x)) from Heap.get?_push_size h2 rfl)
    have s3 : Same H (upd H h2.objs.size (.met (He.ma K (He.ga K "Paper") "__init__") x)) := same_new hf3
    have hx3 := s3 _ _ hx
    have hq3 : (upd H h2.objs.size (.met (He.ma K (He.ga K "Paper") "__init__") x)) h2.objs.size = some (.met (He.ma K (He.ga K "Paper") "__init__") x) := upd_same
    have f13 := f1.same s3
    have f23 := f2.same s3
    have hxn : ∀ {p : Addr}, (upd H h2.objs.size (.met (He.ma K (He.ga K "Paper") "__init__") x)) p = none → H p = none := fun h => none_back s3 h
    generalize (upd H h2.objs.size (.met (He.ma K (He.ga K "Paper") "__init__") x)) = H3 at I3 s3 hx3 hq3 f13 f23 hxn
    refine wpAny_mono (callwith_met (X := NdefX.ncx CX0 P w K mg base N_Worst_init ⟨"__init__", "Worst.__init__", defArgs s_Worst_init, defBody s_Worst_init, defScope s_Worst_init, [("__class__", cc)], c⟩ (wsF K) A outer s H E) (a := x) (Q := fun _ s' => ∃ (H5 : Hp), Inv (NdefX.ncx CX0 P w K mg base N_Worst_init ⟨"__init__", "Worst.__init__", defArgs s_Worst_init, defBody s_Worst_init, defScope s_Worst_init, [("__class__", cc)], c⟩ (wsF K) A outer s H E) [] (NdefX.startF N_Worst_init [.ref x, u, v] [none]) H5 s' ∧ SameX x H3 H5 ∧ ∃ t, H5 x = some (.ins (He.ga K "Worst") dx [("word", .str "worst"), ("parts", t)]) ∧ Tp K H5 t (.tuple [d1, d2])) (by rfl) w6 ?_) (fun v_ s5 hs5 => ?_) (fun _ _ z => z)
    · refine PySem.Calls.evalArgs_plain ?_
      refine thn (PA.run (X := (NdefX.ncx CX0 P w K mg base N_Worst_init ⟨"__init__", "Worst.__init__", defArgs s_Worst_init, defBody s_Worst_init, defScope s_Worst_init, [("__class__", cc)], c⟩ (wsF K) A outer s H E)) (pa_cons pe_str (pa_cons (pv 1) (pa_cons (pv 2) pa_nil))) _ [] _ _ H3 (fun vs H4 => vs = [.str "worst", u, v] ∧ H4 = H3) I3 ⟨_, rfl, _, rfl, rfl, rfl⟩) fun us4 s4 ⟨vs, H4, I4, r4, q4⟩ => ?_
      obtain ⟨rfl, rfl⟩ := q4
      refine ⟨met_P I4 hq3, ?_⟩
      refine wpAny_mono (wpAny_call (PySem.W.method_call (met_P I4 hq3).1 (run_fnR (us := .ref x :: us4) (vs := [.ref x, .str "worst", u, v]) (Q := fun _ H5 => SameX x H4 H5 ∧ ∃ t, H5 x = some (.ins (He.ga K "Worst") dx [("word", .str "worst"), ("parts", t)]) ∧ Tp K H5 t (.tuple [d1, d2])) RP (hr1.mono (by decide)) pass0 I4 (.cons rfl r4) ?_))) (fun v s' ⟨y, H', I', r', q'⟩ => ⟨H', I', q'⟩) (fun _ _ z => z)
      refine ⟨[.ref x, .str "worst"], [u, v], rfl, rfl, (by show 2 ≤ sizeLine; decide), fun p hp => ?_⟩
      have sp := same_new (o := .tup [u, v]) hp
      refine ⟨x, dx, p, "worst", .tuple [d1, d2], rfl, sp _ _ hx3, .inr ⟨p, [u, v], [d1, d2], rfl, .inl (SqT.of upd_same), rfl, (by show 2 ≤ 1000000; decide), .cons (f13.same sp) (.cons (f23.same sp) .nil)⟩, fun t H' sx ht tt => ?_⟩
      exact ⟨(SameX.of sp).trans sx, t, ht, tt⟩
    · obtain ⟨H5, I5, sx, t, h5, tt⟩ := hs5
      refine wpAt_of_wpAny ?_
      obtain ⟨ta, xs, rfl, q1, q2⟩ := tt.tup_inv
      cases q2 with
      | cons t1 q2 =>
      cases q2 with
      | cons t2 q2 =>
      cases q2
      rename_i y z
      refine wpAny_mono (PSs.run (X := (NdefX.ncx CX0 P w K mg base N_Worst_init ⟨"__init__", "Worst.__init__", defArgs s_Worst_init, defBody s_Worst_init, defScope s_Worst_init, [("__class__", cc)], c⟩ (wsF K) A outer s H E)) (pss_one (ps_asg (pe_fld (pv 0) rfl) (pg_tup rfl (pgs_cons (pg_fld (pv 0)) (pgs_cons (pg_fld (pv 0)) pgs_nil))))) [] s5 _ H5 { nx := fun _ H' => Q .non H', rt := Q } I5 ?_) (fun fl s' hs => ?_) fun e s' hs => hs
      · refine ⟨_, rfl, x, _, dx, _, _, rfl, h5, T.c_Worst, T.a_Worst_parts, rfl, ta, _, rfl, q1, rfl, y, _, rfl, _, rfl, x, _, dx, _, rfl, h5, T.c_Worst, T.a_Worst_heaps, (by show 2 < 1000; decide), z, _, rfl, _, rfl, x, _, dx, _, rfl, upd_same, T.c_Worst, T.a_Worst_lefts, (by show 3 < 1000; decide), rfl, ?_⟩
        rw [upd_upd]
        have s6 : SameX x H5 (upd H5 x (.ins (He.ga K "Worst") dx (worstF (.ref ta) y z))) := SameX.upd
        exact k _ _ y z (((SameX.of s3).trans sx).trans s6) upd_same (Tp.stay (s6.stay h5) t1) (Tp.stay (s6.stay h5) t2)
      · have fin : ∀ {σ' : L2.St} {H' : Hp} {v : V} {u : Value}, Inv (NdefX.ncx CX0 P w K mg base N_Worst_init ⟨"__init__", "Worst.__init__", defArgs s_Worst_init, defBody s_Worst_init, defScope s_Worst_init, [("__class__", cc)], c⟩ (wsF K) A outer s H E) [] σ' H' s' → L2.RelV v u → Q v H' → CE outer P w H s Q u s' :=
          fun {σ' H' v u} J rv q => ⟨v, H', J.os, J.bare, J.base, J.hok, rv, q⟩
        cases fl with
        | ret u' =>
          obtain ⟨v', σ', H', J, rv', q⟩ := hs
          exact fin J rv' q
        | next =>
          obtain ⟨σ', H', J, q⟩ := hs
          exact fin (v := V.non) (u := Value.none) J rfl q
        | brk =>
          obtain ⟨_, _, _, q⟩ := hs
          exact False.elim q
        | cont =>
          obtain ⟨_, _, _, q⟩ := hs
          exact False.elim q
  · match us, hl with
    | [_, _, _], _ => rfl
end
end Nw
namespace Nw
open PySem PySem.Spec PyProof.Rows L2 Nd
/-- an instance of Worst: its heaps, its lefts -/
def WorstAt (K : PySem.W.Frag) (H : Hp) (x : Addr) (F : Heaps) (Ls : List Int) : Prop := ∃ dx t y z, H x = some (.ins (He.ga K "Worst") dx (worstF t y z)) ∧ Tp K H y (dH F) ∧ Tp K H z (dI Ls)
theorem WorstAt.same {K : PySem.W.Frag} {H H' : Hp} {x : Addr} {F : Heaps} {Ls : List Int} (h : WorstAt K H x F Ls) (s : Same H H') : WorstAt K H' x F Ls := by
  obtain ⟨dx, t, y, z, h1, h2, h3⟩ := h
  exact ⟨dx, t, y, z, s _ _ h1, h2.same s, h3.same s⟩
theorem fix_ints {K : PySem.W.Frag} {H : Hp} {n : Nat} : ∀ {ns : List Int}, Paired (fun d x => FixIn K (n + 1) H x d) (ns.map PyData.int) (ns.map V.int)
  | [] => .nil
  | i :: _ => .cons (.inl ⟨i, rfl, rfl⟩) fix_ints
theorem fix_dI {K : PySem.W.Frag} {H : Hp} {n : Nat} {a : Addr} {ns : List Int} (h : SqT K H a (ns.map V.int) ∨ SqL K H a (ns.map V.int)) (hl : ns.length ≤ 1000000) : FixIn K (n + 2) H (.ref a) (dI ns) :=
  .inr ⟨a, _, _, rfl, h, rfl, by rw [List.length_map]; exact hl, fix_ints⟩
theorem fix_hz {K : PySem.W.Frag} {H : Hp} {v : V} {hs : Heaps} (h : Hz K H v hs) (hl : hs.length ≤ 1000000) : FixIn K 3 H v (dH hs) := by
  obtain ⟨a, o, ps, rfl, d, h, p⟩ := h
  refine .inr ⟨a, _, _, rfl, .inl (.inl (.inr ⟨o, h⟩)), rfl, by rw [List.length_map, paired_len p]; exact hl, ?_⟩
  clear h hl
  induction p with
  | nil => exact .nil
  | cons h t ih => exact .cons (fix_dI (n := 0) (.inl h) (by show 2 ≤ 1000000; decide)) ih
theorem nodup_of_map {α β : Type} {f : α → β} : ∀ {l : List α}, (l.map f).Nodup → l.Nodup
  | [], _ => .nil
  | a :: l, h => by
    rw [List.map_cons, List.nodup_cons] at h
    exact List.nodup_cons.mpr ⟨fun m => h.1 (List.mem_map.mpr ⟨a, m, rfl⟩), nodup_of_map h.2⟩
section
variable {P : Program} {w : World} {K : PySem.W.Frag} {mg : Str → Option Value} {base : Heap}
theorem worst_len {b : Nat} {rows : List PRow} {last : Nat} {c : Int} {F : Heaps} {Ls : List Int} (h : WorstM b rows last c F Ls) : F.length ≤ b + last + 3 := by
  have e : ∀ p ∈ F, 2 * ((p.1 - c) / 2) + c = p.1 := fun p hp => by
    have := (h.fb p hp).2.2.1
    omega
  have nd : (F.map fun p => (p.1 - c) / 2).Nodup := by
    have e2 : (F.map (·.1)) = (F.map fun p => (p.1 - c) / 2).map fun k => 2 * k + c := by
      rw [List.map_map]
      exact List.map_congr_left fun p hp => (e p hp).symm
    have := h.up
    rw [e2] at this
    exact nodup_of_map this
  have l := win_len (b := (b + last + 2) / 2) nd fun y hy => by
    obtain ⟨p, hp, rfl⟩ := List.mem_map.mp hy
    obtain ⟨_, _, f1, f2, f3⟩ := h.fb p hp
    have c1 : 0 ≤ c ∧ c ≤ 1 := by omega
    omega
  rw [List.length_map] at l
  omega
theorem up_nd {l : List Int} (h : l.Pairwise (· < ·)) : l.Nodup := h.imp fun hab e => by omega
abbrev N_worst_start : List Str := ["look", "wish", "lefts"]
theorem sc_worst_start : FnScope N_worst_start ["look"] (defScope s_worst_start) := ⟨rfl, rfl, rfl, by decide +kernel, rfl, by decide +kernel, by decide +kernel⟩
def sp_worstStart (K : PySem.W.Frag) : Sp := fun vs H Q _ => ∃ (v : V) (rows : List PRow) (last b : Nat) (c : Int), vs = [v] ∧ LookIs K H v rows last c ∧ last ≤ 6 ∧ b ≤ 31 ∧ (∀ r ∈ rows, -(b : Int) ≤ r.1 - r.2.1 ∧ r.1 + r.2.1 ≤ b) ∧ (c = 0 ∨ c = 1) ∧
  ∀ x H' F Ls, Same H H' → WorstAt K H' x F Ls → WorstM b rows last c F Ls → Ls.Pairwise (· < ·) → (∀ y ∈ Ls, -(b : Int) ≤ y ∧ y ≤ b) → Q (.ref x) H'
theorem O_worst_start (T2 : Tx2 P K mg) : Ok P w K mg base 11 (He.ga K "worst_start") ["look"] (sp_worstStart K) := by
  have T := T2.toTx
  have O_need_lookD := O_need_lookD (P := P) (w := w) (base := base) T
  have O_need_near := O_need_near (P := P) (w := w) (base := base) T
  have O_free_wish := O_free_wish (P := P) (w := w) (base := base) T
  have O_heaps_for := O_heaps_for (P := P) (w := w) (base := base) T
  have O_Worst_init := O_Worst_init (P := P) (w := w) (base := base) T2
  refine Ok.mk T.f_worst_start sc_worst_start (fun vs H Q E h => ?_) (fun _ _ _ _ _ _ us hl => match us, hl with | [_], _ => rfl) (fun cdv A outer s H vs Q E hr h => ?_)
  · obtain ⟨v, rows, last, b, c, rfl, _⟩ := h; rfl
  · obtain ⟨v, rows, last, b, c, rfl, li, hl6, hb, hrb, h01, k⟩ := h
    refine ⟨_, (pss_cons (ps_expr (pe_fnD O_need_lookD (hr.mono (by decide)) T.g_need_look (pa_cons (pv 0) pa_nil)))
      (pss_cons (ps_expr (pe_fn O_need_near (hr.mono (by decide)) T.g_need_near (pa_cons (pv 0) pa_nil)))
      (pss_cons (ps_asg (pe_fn O_free_wish (hr.mono (by decide)) T.g_free_wish (pa_cons (pv 0) pa_nil)) (pg_tup rfl (pgs_cons (pg_name (i := 1) sc_worst_start.nd rfl (.inl rfl) (by first | exact .inl rfl | exact .inr rfl)) (pgs_cons (pg_name (i := 2) sc_worst_start.nd rfl (.inl rfl) (by first | exact .inl rfl | exact .inr rfl)) pgs_nil))))
      (pss_one (ps_ret (pe_mk O_Worst_init T.k_Worst (hr.mono (by decide)) T.g_Worst (pa_cons (pe_fn O_heaps_for (hr.mono (by decide)) T.g_heaps_for (pa_cons (pv 0) (pa_cons (pv 2) (pa_cons (pv 1) pa_nil)))) (pa_cons (pv 2) pa_nil)))))))), ?_⟩
    have hrb2 : ∀ r ∈ rows, -(b : Int) ≤ r.1 ∧ r.1 ≤ b := fun r hr => by
      have := hrb r hr
      omega
    refine ⟨_, rfl, v, .str "look", rows, last, c, rfl, li, _, rfl, v, rows, last, c, rfl, li, hl6, (fun r hr => ?_), fun H1 s1 => ⟨_, rfl, v, rows, last, b, c, rfl, li.same s1, hl6, hb, hrb, h01, fun q H2 W z Ls s2 hq hW hz up bd hL => ?_⟩⟩
    · have := hrb2 r hr
      omega
    refine ⟨q, _, rfl, hq, rfl, _, _, rfl, _, _, rfl, rfl, ?_⟩
    have ll := win_len (up_nd up) bd
    refine ⟨_, rfl, _, rfl, _, rfl, v, z, W, rows, last, b, c, Ls, rfl, (li.same s1).same s2, hl6, hb, hrb2, h01, hW, hz, up_nd up, by omega, hL, fun u H3 F s3 hu wm => ?_⟩
    have fl := worst_len wm
    refine ⟨_, rfl, fun x dx hx hdx hne => ?_⟩
    have sn : Same H3 (upd (upd H3 dx (.own x)) x (.ins (He.ga K "Worst") dx [])) := (same_new (o := .own x) hdx).trans (same_new (by rw [upd_ne (Ne.symm hne)]; exact hx))
    refine ⟨x, dx, u, z, dH F, dI Ls, rfl, upd_same, (fix_hz hu (by omega)).same sn, ?_, fun H' t y z' sx hx' ty tz => ⟨rfl, k x H' F Ls ?_ ⟨dx, t, y, z', hx', ty, tz⟩ wm up bd⟩⟩
    · obtain ⟨a, rfl, ha⟩ := tpI_inv (hz.same s3)
      exact (fix_dI (n := 1) (.inl ha) (by omega)).same sn
    · exact ((s1.trans s2).trans s3).trans fun b' o e => sx b' o (ne_of_none e hx) (sn _ _ e)
end
end Nw
namespace Nw
open PySem PySem.Spec PyProof.Rows L2 Nd
/-- the running product of choices -/
def chS (m : Int) : Nat → Int
  | 0 => 1
  | i + 1 => chS m i * (m - (i : Int)) / ((i : Int) + 1)
theorem chS_small : ∀ m : Nat, m ≤ 6 → ∀ i : Nat, i ≤ 6 → -(2 ^ 64) < chS m i ∧ chS m i < 2 ^ 64 := by
  decide +kernel
theorem chS_P : ∀ T : Nat, T ≤ 6 → ∀ k : Nat, k ≤ T → P T (2 * (k : Int) - T) = chS T k := by
  decide +kernel
theorem sum_lsum {α : Type} {f : α → Int} : ∀ {l : List α}, (l.map f).sum = lsum f l
  | [] => rfl
  | a :: l => by
    rw [List.map_cons, List.sum_cons, sum_lsum]
    rfl
theorem lsum_take {α : Type} {f : α → Int} {l : List α} {i : Nat} {d : α} (h : l[i]? = some d) : lsum f (l.take (i + 1)) = lsum f (l.take i) + f d := by
  rw [List.take_succ, h, ← sumL_map, ← sumL_map, List.map_append]
  unfold sumL
  rw [List.foldl_append]
  rfl
theorem isIn_perm {l m : List Int} (h : l.Perm m) : isIn l = isIn m := by
  funext y
  unfold isIn
  exact decide_eq_decide.mpr h.mem_iff
section
variable {P : Program} {w : World} {K : PySem.W.Frag} {mg : Str → Option Value} {base : Heap}
abbrev N_choices : List Str := ["many", "some", "found", "at"]
theorem sc_choices : FnScope N_choices ["many", "some"] (defScope s_choices) := ⟨rfl, rfl, rfl, by decide +kernel, rfl, by decide +kernel, by decide +kernel⟩
def sp_choices (K : PySem.W.Frag) : Sp := fun vs H Q _ => ∃ m k : Nat, vs = [.int m, .int k] ∧ m ≤ 6 ∧ k ≤ 6 ∧ ∀ H', Same H H' → Q (.int (chS m k)) H'
theorem O_choices (T : Tx K mg) : Ok P w K mg base 1 (He.ga K "choices") ["many", "some"] (sp_choices K) := by
  refine Ok.mk T.f_choices sc_choices (fun vs H Q E h => ?_) (fun _ _ _ _ _ _ us hl => match us, hl with | [_, _], _ => rfl) (fun cdv A outer s H vs Q E hr h => ?_)
  · obtain ⟨m, k, rfl, _⟩ := h; rfl
  · obtain ⟨m, n, rfl, hm, hn, k⟩ := h
    refine ⟨_, (pss_cons (ps_set (i := 2) sc_choices.nd rfl (.inl rfl) pe_int)
      (pss_cons (ps_for PassesOwn.never rfl (pi_range1 (by rfl) T.z_range (pa_cons (pv 1) pa_nil)) (pg_name (i := 3) sc_choices.nd rfl (.inl rfl) (by first | exact .inl rfl | exact .inr rfl))
      (pss_one (ps_set (i := 2) sc_choices.nd rfl (.inl rfl) (pe_op op_fdiv (pe_op op_mul (pv 2) (pe_op op_sub (pv 0) (pv 3))) (pe_op op_add (pv 3) pe_int)))))
      (pss_one (ps_ret (pv 2))))), ?_⟩
    refine ⟨_, rfl, _, rfl, by omega, by omega, ?_⟩
    refine for_src (Src.range (lo := 0) (n := ((n : Nat) : Int).toNat)) (fun i σ H' => ∃ o, σ = [some (.int m), some (.int n), some (.int (chS m i)), o] ∧ Same H H') ?_ ?_ ?_ ?_
    · exact ⟨_, rfl, Same.refl _⟩
    · intro i σ H' _ _
      exact trivial
    · rintro i d x σ H1 H2 hi ⟨o, rfl, s1⟩ s2 hx
      have hlt := (List.getElem?_eq_some_iff.mp hi).1
      rw [List.length_range, Int.toNat_natCast] at hlt
      have ei := (List.getElem?_eq_some_iff.mp hi).2
      rw [List.getElem_range] at ei
      subst ei
      rw [Int.zero_add] at hx
      subst hx
      have sm := chS_small m hm i (by omega)
      refine ⟨_, rfl, _, rfl, _, rfl, _, _, rfl, rfl, _, _, rfl, rfl, .inl sm, _, rfl, _, _, rfl, rfl, _, _, rfl, rfl, by show _; unfold CDiv; omega, ?_⟩
      exact ⟨_, rfl, s1.trans s2⟩
    · rintro σ H' ⟨o, rfl, s1⟩
      rw [List.length_range, Int.toNat_natCast]
      exact ⟨_, rfl, k _ s1⟩
abbrev N_rows_to : List Str := ["far", "ticks"]
theorem sc_rows_to : FnScope N_rows_to ["far", "ticks"] (defScope s_rows_to) := ⟨rfl, rfl, rfl, by decide +kernel, rfl, by decide +kernel, by decide +kernel⟩
def sp_rowsTo (K : PySem.W.Frag) : Sp := fun vs H Q _ => ∃ (d : Int) (T : Nat), vs = [.int d, .int T] ∧ T ≤ 6 ∧ ∀ H', Same H H' → Q (.int (Nd.P T d)) H'
theorem O_rows_to (T : Tx K mg) : Ok P w K mg base 2 (He.ga K "rows_to") ["far", "ticks"] (sp_rowsTo K) := by
  have O_choices := O_choices (P := P) (w := w) (base := base) T
  refine Ok.mk T.f_rows_to sc_rows_to (fun vs H Q E h => ?_) (fun _ _ _ _ _ _ us hl => match us, hl with | [_, _], _ => rfl) (fun cdv A outer s H vs Q E hr h => ?_)
  · obtain ⟨d, n, rfl, _⟩ := h; rfl
  · obtain ⟨d, n, rfl, hn, k⟩ := h
    refine ⟨_, (pss_cons (ps_if (PW.pt (pw_or (pt_cmpR op_gt (pe_callB call_abs (by rfl) T.z_abs (by decide +kernel) (pa_cons (pv 0) pa_nil)) (pv 1) (nomark _)) (pw_or1 (pt_cmpR op_eq (pe_op op_mod (pe_op op_add (pv 0) (pv 1)) pe_int) pe_int (nomark _)))))
      (pss_one (ps_ret pe_int))
      pss_nil)
      (pss_one (ps_ret (pe_fn O_choices (hr.mono (by decide)) T.g_choices (pa_cons (pv 1) (pa_cons (pe_op op_fdiv (pe_op op_sub (pv 1) (pe_callB call_abs (by rfl) T.z_abs (by decide +kernel) (pa_cons (pv 0) pa_nil))) pe_int) pa_nil)))))), ?_⟩
    refine ⟨_, rfl, d, rfl, _, rfl, _, _, rfl, rfl, _, rfl, ?_⟩
    by_cases h1 : (n : Int) < (if d < 0 then -d else d)
    · refine dT h1 (iteT ?_)
      rw [show (0 : Int) = Nd.P n d from (P_far (by split at h1 <;> omega)).symm]
      exact k _ (Same.refl _)
    refine dFa h1 ?_
    refine ⟨_, rfl, _, rfl, _, _, rfl, rfl, _, _, rfl, rfl, (by show (0 : Int) < 2; decide), rfl, _, rfl, ?_⟩
    by_cases h2 : (d + n) % 2 = 1
    · rw [decide_eq_true (congrArg V.int h2)]
      refine iteT ?_
      rw [show (0 : Int) = Nd.P n d from (P_odd (by omega)).symm]
      exact k _ (Same.refl _)
    rw [decide_eq_false (fun e => h2 (by injection e))]
    refine iteF ?_
    have hk : (((((n : Int) - (if d < 0 then -d else d)) / 2).toNat : Nat) : Int) = ((n : Int) - (if d < 0 then -d else d)) / 2 := Int.toNat_of_nonneg (by split at h1 <;> split <;> omega)
    have hle : (((n : Int) - (if d < 0 then -d else d)) / 2).toNat ≤ n := by split at h1 <;> split <;> omega
    have eP : chS n (((n : Int) - (if d < 0 then -d else d)) / 2).toNat = Nd.P n d := by
      rw [← chS_P n hn _ hle, hk]
      by_cases hd : d < 0
      · rw [if_pos hd] at h1 ⊢
        rw [show 2 * (((n : Int) - -d) / 2) - n = d from by omega]
      · rw [if_neg hd] at h1 ⊢
        rw [show 2 * (((n : Int) - d) / 2) - n = -d from by omega, P_sym]
    refine ⟨_, rfl, _, rfl, _, rfl, d, rfl, _, _, rfl, rfl, _, _, rfl, rfl, c_div2, n, (((n : Int) - (if d < 0 then -d else d)) / 2).toNat, by rw [hk]; rfl, hn, by omega, fun H' s' => ?_⟩
    rw [eP]
    exact k _ s'
abbrev N_mean_in : List Str := ["heaps", "spot", "ticks", "total", "begin", "many"]
theorem sc_mean_in : FnScope N_mean_in ["heaps", "spot", "ticks"] (defScope s_mean_in) := ⟨rfl, rfl, rfl, by decide +kernel, rfl, by decide +kernel, by decide +kernel⟩
def sp_meanIn (K : PySem.W.Frag) : Sp := fun vs H Q _ => ∃ (v : V) (hs : Heaps) (x : Int) (T : Nat), vs = [v, .int x, .int T] ∧ Tp K H v (dH hs) ∧ hs.length ≤ 1000 ∧ T ≤ 6 ∧ ∀ z H', Same H H' → Fr K H' z (lsum (fun p : Int × Int => p.2 * Nd.P T (x - p.1)) hs) (2 ^ T) → Q z H'
theorem O_mean_in (T : Tx K mg) : Ok P w K mg base 3 (He.ga K "mean_in") ["heaps", "spot", "ticks"] (sp_meanIn K) := by
  have O_rows_to := O_rows_to (P := P) (w := w) (base := base) T
  have O_least_pair := O_least_pair (P := P) (w := w) (base := base) T
  refine Ok.mk T.f_mean_in sc_mean_in (fun vs H Q E h => ?_) (fun _ _ _ _ _ _ us hl => match us, hl with | [_, _, _], _ => rfl) (fun cdv A outer s H vs Q E hr h => ?_)
  · obtain ⟨v, hs, x, n, rfl, _⟩ := h; rfl
  · obtain ⟨v, hs, x, n, rfl, hv, hl, hn, k⟩ := h
    obtain ⟨a, xs, rfl, ha, ht, hxl⟩ := tpL_inv hv
    refine ⟨_, (pss_cons (ps_set (i := 3) sc_mean_in.nd rfl (.inl rfl) (pe_callB (cr_sum rfl) (by rfl) T.z_sum (by decide +kernel) (pa_cons (pe_lc (own := [("begin", 4), ("many", 5)]) rfl sc_mean_in.nd (pi_tup (pv 0)) (blkOk_by (N := N_mean_in) (sc := defScope s_mean_in) (by decide +kernel)) (fun _ _ _ _ _ => (pg_tupK (K := K) (n := 2) rfl rfl (pgs_cons (pg_name (i := 4) sc_mean_in.nd rfl (.inl rfl) (by first | exact .inl rfl | exact .inr rfl)) (pgs_cons (pg_name (i := 5) sc_mean_in.nd rfl (.inl rfl) (by first | exact .inl rfl | exact .inr rfl)) pgs_nil)))) (fun _ _ _ _ _ => pts_nil) (fun _ _ _ _ _ => (pe_op op_mul (pv 5) (pe_fn O_rows_to (hr.mono (by decide)) T.g_rows_to (pa_cons (pe_op op_sub (pv 1) (pv 4)) (pa_cons (pv 2) pa_nil)))))) pa_nil)))
      (pss_one (ps_ret (pe_fn O_least_pair (hr.mono (by decide)) T.g_least_pair (pa_cons (pv 3) (pa_cons (pe_op op_shl pe_int (pv 2)) pa_nil)))))), ?_⟩
    refine ⟨_, rfl, a, rfl, ⟨_, ha⟩, fun D hD => lc_src (Src.tp (K := K) (f := dB) (l := hs) (xs := xs)) (K := K) hD (fun p y _ => y = .int (p.2 * Nd.P n (x - p.1))) (fun _ => true) (fun H' s2 => ⟨same_t s2 ha, ht.same s2⟩) (fun _ _ _ _ _ h => h) (by omega) (fun i d y H2 Q1 Q0 s2 hi hy k1 _ => ?_) (fun H2 ys s2 hD2 hp => ?_)⟩
    · obtain ⟨q, rfl, hq⟩ := tpI_inv hy
      refine ⟨q, _, rfl, hq, rfl, _, _, rfl, _, _, rfl, rfl, rfl, yes_ ⟨_, rfl, _, rfl, _, rfl, _, _, rfl, rfl, _, rfl, x - d.1, n, rfl, hn, fun H3 s3 => ⟨_, _, rfl, rfl, .inr ?_, k1 rfl _ _ s3 rfl⟩⟩⟩
      have a1 := P_nonneg (k := n) (d := x - d.1)
      have a2 := P_le (k := n) (d := x - d.1)
      have a3 := two_last hn
      omega
    · rw [List.filter_eq_self.mpr (by simp)] at hp
      have e := paired_val (f := fun (p : Int × Int) => V.int (p.2 * Nd.P n (x - p.1))) hp
      have e2 : ys = (hs.map fun p => p.2 * Nd.P n (x - p.1)).map V.int := by rw [e, List.map_map]; rfl
      subst e2
      refine ⟨D, _, rfl, SqL.of hD2, _, rfl, _, rfl, _, _, rfl, rfl, ⟨by omega, by omega, by decide⟩, _, 1 * 2 ^ ((n : Nat) : Int).toNat, rfl, ?_, ?_, fun v H3 s3 fr => k v H3 (s2.trans s3) ?_⟩
      · rw [Int.one_mul, Int.toNat_natCast]; exact (two_last hn).1
      · have := (two_last hn).2
        rw [Int.one_mul, Int.toNat_natCast]; omega
      · rw [Int.one_mul, Int.toNat_natCast, sum_lsum] at fr
        exact fr
abbrev N_worth_in : List Str := ["look", "heaps", "lefts", "line", "total", "spot", "tick", "weight"]
theorem sc_worth_in : FnScope N_worth_in ["look", "heaps", "lefts"] (defScope s_worth_in) := ⟨rfl, rfl, rfl, by decide +kernel, rfl, by decide +kernel, by decide +kernel⟩
def sp_worth (K : PySem.W.Frag) : Sp := fun vs H Q _ => ∃ (v y z : V) (rows : List PRow) (last : Nat) (c : Int) (hs : Heaps) (ls : List Int) (c2 : Int), vs = [v, y, z] ∧ LookIs K H v rows last c ∧ last ≤ 6 ∧ Tp K H y (dH hs) ∧ Tp K H z (dI ls) ∧ HOk hs ∧ LOk ls ∧ (∀ p ∈ hs, p.1 % 2 = c2) ∧ 
  ∀ H', Same H H' → Q (.int (lsum (fun r : PRow => r.2.2 * evH (gets hs) (isIn ls) r.2.1 r.1) rows)) H'
theorem O_worth_in (T : Tx K mg) : Ok P w K mg base 9 (He.ga K "worth_in") ["look", "heaps", "lefts"] (sp_worth K) := by
  have O_Line_init := O_Line_init (P := P) (w := w) (base := base) T
  have O_forward := O_forward (P := P) (w := w) (base := base) T
  have O_heap_at := O_heap_at (P := P) (w := w) (base := base) T
  refine Ok.mk T.f_worth_in sc_worth_in (fun vs H Q E h => ?_) (fun _ _ _ _ _ _ us hl => match us, hl with | [_, _, _], _ => rfl) (fun cdv A outer s H vs Q E hr h => ?_)
  · obtain ⟨v, y, z, rows, last, c, hs, ls, c2, rfl, _⟩ := h; rfl
  · obtain ⟨v, y, z, rows, last, c, hs, ls, c2, rfl, li, hl6, hy, hz, hok, lok, hc, k⟩ := h
    refine ⟨_, (pss_cons (ps_par (i := 3) (j := 4) rfl sc_worth_in.nd rfl rfl (by decide) rfl rfl (pa_cons (pe_mk O_Line_init T.k_Line (hr.mono (by decide)) T.g_Line (pa_cons (pv 1) (pa_cons (pv 2) pa_nil))) (pa_cons pe_int pa_nil)) (by rfl))
      (pss_cons (ps_for PassesOwn.never rfl (pi_tup (pe_fld (pv 0) rfl)) (pg_tup rfl (pgs_cons (pg_name (i := 5) sc_worth_in.nd rfl (.inl rfl) (by first | exact .inl rfl | exact .inr rfl)) (pgs_cons (pg_name (i := 6) sc_worth_in.nd rfl (.inl rfl) (by first | exact .inl rfl | exact .inr rfl)) (pgs_cons (pg_name (i := 7) sc_worth_in.nd rfl (.inl rfl) (by first | exact .inl rfl | exact .inr rfl)) pgs_nil))))
      (pss_cons (ps_expr (pe_mt O_forward T.c_Line T.m_Line_forward (hr.mono (by decide)) (pv 3) (pa_cons (pe_op op_sub (pv 6) (pe_fld (pv 3) rfl)) pa_nil)))
      (pss_one (ps_set (i := 4) sc_worth_in.nd rfl (.inl rfl) (pe_op op_add (pv 4) (pe_op op_mul (pv 7) (pe_mt O_heap_at T.c_Line T.m_Line_heap_at (hr.mono (by decide)) (pv 3) (pa_cons (pv 5) pa_nil))))))))
      (pss_one (ps_ret (pv 4))))), ?_⟩
    have liH := li
    obtain ⟨⟨la0, ldx, ltv, rfl, g1, g2⟩, rok, srt, hle, _⟩ := li
    obtain ⟨ta, xs, rfl, h3, h4, h5⟩ := tpL_inv g2
    have hln := rok.len
    refine ⟨_, rfl, _, rfl, fun a dx ha hdx hne => ?_⟩
    have sn : Same H (upd (upd H dx (.own a)) a (.ins (He.ga K "Line") dx [])) := (same_new (o := .own a) hdx).trans (same_new (by rw [upd_ne (Ne.symm hne)]; exact ha))
    refine ⟨a, dx, y, z, hs, ls, c2, rfl, upd_same, hy.same sn, hz.same sn, hok, lok, hc, fun H1 hs1 ls1 sx pm1 pm2 la => ⟨rfl, _, _, rfl, ?_⟩⟩
    have s1 : Same H H1 := fun b' o e => sx b' o (ne_of_none e ha) (sn _ _ e)
    have nd1 : (hs1.map (·.1)).Nodup := ((pm1.map (·.1)).nodup_iff).mpr hok.nd
    have nd2 : ls1.Nodup := (pm2.nodup_iff).mpr lok.nd
    have l1 : LineIs K H1 a (gets hs) (isIn ls) 0 := ⟨hs1, ls1, la, funext fun k => gets_perm nd1 pm1 k, isIn_perm pm2, nd1, nd2, fun p hp => by have := (hok.bd p (pm1.subset hp)).2.1; omega, by have := pm1.length_eq; have := hok.len; omega, by have := pm2.length_eq; have := lok.len; omega⟩
    refine ⟨_, rfl, la0, _, ldx, _, _, rfl, s1 _ _ g1, T.c_Look, T.a_Look_rows, rfl, ta, rfl, ⟨_, same_t s1 h3⟩, ?_⟩
    refine for_src (Src.tp (K := K) (f := dR) (l := rows) (xs := xs)) (fun i σ H' => ∃ t o5 o6 o7, σ = [some (.ref la0), some y, some z, some (.ref a), some (.int (lsum (fun r : PRow => r.2.2 * evH (gets hs) (isIn ls) r.2.1 r.1) (rows.take i))), o5, o6, o7] ∧ Same H H' ∧ LineIs K H' a (gets hs) (isIn ls) t ∧ ∀ j r, i ≤ j → rows[j]? = some r → t ≤ r.2.1) ?_ ?_ ?_ ?_
    · exact ⟨0, _, _, _, rfl, s1, l1, fun _ _ _ _ => Nat.zero_le _⟩
    · rintro i σ H' _ ⟨t, o5, o6, o7, _, s2, _⟩
      exact ⟨same_t s2 h3, h4.same s2⟩
    · rintro i d x σ H2 H3 hi ⟨t, o5, o6, o7, rfl, s2, lt, le⟩ s3 hx
      obtain ⟨q, rfl, hq⟩ := tpI_inv hx
      have hd := List.mem_of_getElem? hi
      have tle := le i d (Nat.le_refl _) hi
      have d6 := hle d hd
      have lt3 := lt.same s3
      obtain ⟨hs2, ls2, la2, _⟩ := id lt3
      obtain ⟨dx2, u2, v2, e1, _⟩ := la2
      refine ⟨q, _, rfl, hq, rfl, _, _, rfl, _, _, rfl, _, _, rfl, rfl, ?_⟩
      refine ⟨_, rfl, a, dx2, _, rfl, e1, rfl, _, rfl, _, rfl, a, _, dx2, _, _, rfl, e1, T.c_Line, T.a_Line_tick, rfl, _, _, rfl, rfl, a, gets hs, isIn ls, t, d.2.1 - t, ?_, lt3, by omega, fun H4 sx4 l4 => ?_⟩
      · rw [Int.ofNat_sub tle]; rfl
      rw [show t + (d.2.1 - t) = d.2.1 from by omega] at l4
      have s4 : Same H H4 := fun b' o e => sx4 b' o (ne_of_none e ha) ((s2.trans s3) _ _ e)
      obtain ⟨hs3, ls3, la3, eg, _, nd3, _⟩ := id l4
      obtain ⟨dx3, u3, v3, e3, e4, e5⟩ := la3
      have wb := (rok.bd d hd).2.2.1
      refine ⟨_, rfl, _, rfl, _, rfl, a, dx3, _, rfl, e3, rfl, _, rfl, a, d.1, _, hs3, ls3, rfl, ⟨dx3, u3, v3, e3, e4, e5⟩, nd3, fun H5 s5 => ⟨_, _, rfl, rfl, .inl ?_, _, _, rfl, rfl, ?_⟩⟩
      · have : MW ≤ 1000000 := by decide
        omega
      · refine ⟨d.2.1, some (.int d.1), some (.int (d.2.1 : Nat)), some (.int d.2.2), ?_, s4.trans s5, l4.same s5, fun j r hj hr => ?_⟩
        · rw [lsum_take hi, eg]; rfl
        · have hil := (List.getElem?_eq_some_iff.mp hi)
          have hjl := (List.getElem?_eq_some_iff.mp hr)
          obtain ⟨hi1, hi2⟩ := hil
          obtain ⟨hj1, hj2⟩ := hjl
          have := List.pairwise_iff_getElem.mp srt i j hi1 hj1 (by omega)
          rw [hi2, hj2] at this
          exact this
    · rintro σ H2 ⟨t, o5, o6, o7, rfl, s2, lt, le⟩
      rw [List.take_length]
      exact ⟨_, rfl, k _ s2⟩
end
end Nw
namespace Nw
open PySem PySem.Spec PyProof.Rows L2 Nd
theorem paired_fr {α : Type} {K : PySem.W.Frag} {H : Hp} {f : α → Int} {D : Int} : ∀ {l : List α} {ys : List V}, Paired (fun r z => Fr K H z (f r) D) l ys → TpAll K H ys ((l.map f).map fun x => dF (lp x D))
  | _, _, .nil => .nil
  | _, _, .cons h t => .cons h (paired_fr t)
section
variable {P : Program} {w : World} {K : PySem.W.Frag} {mg : Str → Option Value} {base : Heap}
abbrev N_mean_of_look : List Str := ["look", "heaps", "spot", "tick", "weight"]
theorem sc_mean_of_look : FnScope N_mean_of_look ["look", "heaps"] (defScope s_mean_of_look) := ⟨rfl, rfl, rfl, by decide +kernel, rfl, by decide +kernel, by decide +kernel⟩
/-- a look's mean, times 2 ^ last -/
def meanL (rows : List PRow) (last : Nat) (hs : Heaps) : Int := lsum (fun r : PRow => r.2.2 * (lsum (fun p : Int × Int => p.2 * Nd.P r.2.1 (r.1 - p.1)) hs * 2 ^ (last - r.2.1))) rows
def sp_meanL (K : PySem.W.Frag) : Sp := fun vs H Q _ => ∃ (v y : V) (rows : List PRow) (last : Nat) (c : Int) (hs : Heaps), vs = [v, y] ∧ LookIs K H v rows last c ∧ last ≤ 6 ∧ Tp K H y (dH hs) ∧ hs.length ≤ 1000 ∧ ∀ z H', Same H H' → Fr K H' z (meanL rows last hs) (2 ^ last) → Q z H'
theorem O_mean_of_look (T : Tx K mg) : Ok P w K mg base 4 (He.ga K "mean_of_look") ["look", "heaps"] (sp_meanL K) := by
  have O_mean_in := O_mean_in (P := P) (w := w) (base := base) T
  have O_times := O_times (P := P) (w := w) (base := base) T
  have O_total_of := O_total_of (P := P) (w := w) (base := base) T
  refine Ok.mk T.f_mean_of_look sc_mean_of_look (fun vs H Q E h => ?_) (fun _ _ _ _ _ _ us hl => match us, hl with | [_, _], _ => rfl) (fun cdv A outer s H vs Q E hr h => ?_)
  · obtain ⟨v, y, rows, last, c, hs, rfl, _⟩ := h; rfl
  · obtain ⟨v, y, rows, last, c, hs, rfl, li, hl6, hy, hl, k⟩ := h
    obtain ⟨⟨la0, ldx, ltv, rfl, g1, g2⟩, rok, srt, hle, _⟩ := li
    obtain ⟨ta, xs, rfl, h3, h4, h5⟩ := tpL_inv g2
    have hln := rok.len
    refine ⟨_, (pss_one (ps_ret (pe_fn O_total_of (hr.mono (by decide)) T.g_total_of (pa_cons (pe_lc (own := [("spot", 2), ("tick", 3), ("weight", 4)]) rfl sc_mean_of_look.nd (pi_tup (pe_fld (pv 0) rfl)) (blkOk_by (N := N_mean_of_look) (sc := defScope s_mean_of_look) (by decide +kernel)) (fun _ _ _ _ _ => (pg_tupK (K := K) (n := 3) rfl rfl (pgs_cons (pg_name (i := 2) sc_mean_of_look.nd rfl (.inl rfl) (by first | exact .inl rfl | exact .inr rfl)) (pgs_cons (pg_name (i := 3) sc_mean_of_look.nd rfl (.inl rfl) (by first | exact .inl rfl | exact .inr rfl)) (pgs_cons (pg_name (i := 4) sc_mean_of_look.nd rfl (.inl rfl) (by first | exact .inl rfl | exact .inr rfl)) pgs_nil))))) (fun _ _ _ _ _ => pts_nil) (fun _ _ _ _ _ => (pe_fn O_times (hr.mono (by decide)) T.g_times (pa_cons (pe_tup (pa_cons (pv 4) (pa_cons pe_int pa_nil))) (pa_cons (pe_fn O_mean_in (hr.mono (by decide)) T.g_mean_in (pa_cons (pv 1) (pa_cons (pv 2) (pa_cons (pv 3) pa_nil)))) pa_nil))))) pa_nil)))), ?_⟩
    refine ⟨_, rfl, la0, _, ldx, _, _, rfl, g1, T.c_Look, T.a_Look_rows, rfl, ta, rfl, ⟨_, h3⟩, fun D hD => lc_src (Src.tp (K := K) (f := dR) (l := rows) (xs := xs)) (K := K) hD (fun r z H => Fr K H z (r.2.2 * (lsum (fun p : Int × Int => p.2 * Nd.P r.2.1 (r.1 - p.1)) hs * 2 ^ (last - r.2.1))) (2 ^ last)) (fun _ => true) (fun H' s2 => ⟨same_t s2 h3, h4.same s2⟩) (fun _ _ _ _ s h => Tp.stay s h) (by omega) (fun i d x H2 Q1 Q0 s2 hi hx k1 _ => ?_) (fun H2 ys s2 hD2 hp => ?_)⟩
    · obtain ⟨q, rfl, hq⟩ := tpI_inv hx
      have hd := List.mem_of_getElem? hi
      have d6 := hle d hd
      have wb := (rok.bd d hd).2.2.1
      have two := two_last hl6
      have mw : MW ≤ 1000000 := by decide
      refine ⟨q, _, rfl, hq, rfl, _, _, rfl, _, _, rfl, _, _, rfl, rfl, rfl, yes_ ⟨_, rfl, (by show 2 ≤ sizeLine; decide), fun p hp => ⟨_, rfl, _, rfl, _, rfl, y, hs, d.1, d.2.1, rfl, (hy.same s2).same (same_new hp), hl, by omega, fun z H3 s3 fz => ?_⟩⟩⟩
      have e : lp (lsum (fun p : Int × Int => p.2 * Nd.P d.2.1 (d.1 - p.1)) hs * 2 ^ (last - d.2.1)) (2 ^ last) = lp (lsum (fun p : Int × Int => p.2 * Nd.P d.2.1 (d.1 - p.1)) hs) (2 ^ d.2.1) := by
        rw [Int.mul_comm, show (2 : Int) ^ last = 2 ^ (last - d.2.1) * 2 ^ d.2.1 from by rw [← Int.pow_add]; congr 1; omega]
        exact lp_mul (Int.pow_pos (by decide))
      exact ⟨.ref p, z, d.2.2, _, 2 ^ last, rfl, fr_new (s3 _ _ upd_same), by show Tp _ _ _ _; rw [e]; exact fz, two.1, by omega, ⟨by omega, by omega⟩, fun z2 H4 s4 f4 => k1 rfl _ _ (((same_new hp).trans s3).trans s4) f4⟩
    · rw [List.filter_eq_self.mpr (by simp)] at hp
      have two := two_last hl6
      refine ⟨.ref D, rows.map fun r : PRow => r.2.2 * (lsum (fun p : Int × Int => p.2 * Nd.P r.2.1 (r.1 - p.1)) hs * 2 ^ (last - r.2.1)), 2 ^ last, rfl, ⟨D, ys, rfl, SqL.of hD2, ?_⟩, two.1, by omega, fun z H' s' f => k z H' (s2.trans s') ?_⟩
      · exact paired_fr hp
      · rw [sumL_map] at f
        exact f
end
end Nw
namespace Nw
open PySem PySem.Spec PyProof.Rows L2 Nd
theorem pe_fldK {X : Cx} {K : PySem.W.Frag} {o : Expr} {ta : TE} {f : Str} {pos : Pos} (hK : X.K = K) (h : PE X o ta) (hb : attributeBase o f X.env (eval o X.env) = eval o X.env) : PE X (.Attribute o f pos) (tFld K ta f) := by
  subst hK
  exact pe_fld h hb
section
variable {P : Program} {w : World} {K : PySem.W.Frag} {mg : Str → Option Value} {base : Heap}
abbrev N_is_start : List Str := ["look", "heaps", "lefts", "spot"]
theorem sc_is_start : FnScope N_is_start ["look", "heaps", "lefts"] (defScope s_is_start) := ⟨rfl, rfl, rfl, by decide +kernel, rfl, by decide +kernel, by decide +kernel⟩
def sp_isStart (K : PySem.W.Frag) : Sp := fun vs H Q _ => ∃ (v y z : V) (rows : List PRow) (last : Nat) (c : Int) (hs : Heaps) (ls : List Int), vs = [v, y, z] ∧ LookIs K H v rows last c ∧ Tp K H y (dH hs) ∧ Tp K H z (dI ls) ∧ HOk hs ∧ LOk ls ∧ (∀ p ∈ hs, p.1 % 2 = c) ∧ ∀ H', Same H H' → Q (.bl true) H'
theorem O_is_start (T : Tx K mg) : Ok P w K mg base 5 (He.ga K "is_start") ["look", "heaps", "lefts"] (sp_isStart K) := by
  have O_need_leftsD := O_need_leftsD (P := P) (w := w) (base := base) T
  have O_are_heaps := O_are_heaps (P := P) (w := w) (base := base) T
  have O_spots_of := O_spots_of (P := P) (w := w) (base := base) T
  refine Ok.mk T.f_is_start sc_is_start (fun vs H Q E h => ?_) (fun _ _ _ _ _ _ us hl => match us, hl with | [_, _, _], _ => rfl) (fun cdv A outer s H vs Q E hr h => ?_)
  · obtain ⟨v, y, z, rows, last, c, hs, ls, rfl, _⟩ := h; rfl
  · obtain ⟨v, y, z, rows, last, c, hs, ls, rfl, li, hy, hz, hok, lok, hc, k⟩ := h
    refine ⟨_, (pss_cons (ps_try_thru0 (pss_one (ps_expr (pe_fnD O_need_leftsD (hr.mono (by decide)) T.g_need_lefts (pa_cons (pv 2) pa_nil)))))
      (pss_one (ps_ret (pe_and (pe_fn O_are_heaps (hr.mono (by decide)) T.g_are_heaps (pa_cons (pv 1) pa_nil)) (pe_one (pe_callB (cr_all rfl) (by rfl) T.z_all (by decide +kernel) (pa_cons (pe_lc (own := [("spot", 3)]) rfl sc_is_start.nd (pi_list (pe_fn O_spots_of (hr.mono (by decide)) T.g_spots_of (pa_cons (pv 1) pa_nil))) (blkOk_by (N := N_is_start) (sc := defScope s_is_start) (by decide +kernel)) (fun _ _ _ _ _ => (pg_name (i := 3) sc_is_start.nd rfl (.inl rfl) (by first | exact .inl rfl | exact .inr rfl))) (fun _ _ _ _ _ => pts_nil) (fun _ _ _ _ _ => (pe_cmpR op_eq (pe_op op_mod (pv 3) pe_int) (pe_fldK (K := K) rfl (pv 0) rfl) (nomark _)))) pa_nil))))))), ?_⟩
    have hl := hok.len
    obtain ⟨⟨la0, ldx, ltv, rfl, g1, g2⟩, rok, srt, hle, _⟩ := li
    refine ⟨_, rfl, z, .str "lefts", ls, rfl, hz, lok, fun z1 H1 ls' s1 pm1 tz1 => ?_⟩
    refine ⟨_, rfl, y, hs, rfl, hy.same s1, hok, fun H2 s2 => ⟨_, rfl, iteT ?_⟩⟩
    have s02 := s1.trans s2
    refine ⟨_, rfl, y, hs, rfl, hy.same s02, by omega, fun a H3 s3 ha => ?_⟩
    have s03 := s02.trans s3
    refine ⟨a, rfl, ⟨_, ha⟩, fun D hD => lc_src (Src.list (K := K) (a := a) (xs := (hs.map fun p : Int × Int => p.1).map V.int)) (K := K) hD (fun _ y _ => y = .bl true) (fun _ => true) (fun H' s2 => s2.seq ha) (fun _ _ _ _ _ h => h) (by rw [List.length_map, List.length_map]; omega) (fun i d x H4 Q1 Q0 s4 hi hx k1 _ => ?_) (fun H4 ys s4 hD4 hp => ?_)⟩
    · subst hx
      rw [List.getElem?_map, List.getElem?_map] at hi
      obtain ⟨n, hn, rfl⟩ := Option.map_eq_some_iff.mp hi
      obtain ⟨p, hp, rfl⟩ := Option.map_eq_some_iff.mp hn
      refine ⟨rfl, yes_ ⟨_, rfl, _, _, rfl, rfl, (by show (0 : Int) < 2; decide), _, rfl, la0, _, ldx, _, _, rfl, (s03.trans s4) _ _ g1, T.c_Look, T.a_Look_colour, rfl, rfl, ?_⟩⟩
      show Q1 (V.bl (decide (V.int (p.1 % 2) = V.int c))) H4
      rw [hc p (List.mem_of_getElem? hp), decide_eq_true rfl]
      exact k1 rfl _ _ (Same.refl _) rfl
    · obtain ⟨bs, e, hb⟩ := all_true (K := K) (H := H4) hp
      subst e
      refine ⟨_, _, rfl, SqL.of hD4, ?_⟩
      rw [hb]
      exact k _ (s03.trans s4)
abbrev N_shows_worst : List Str := ["look", "value", "heaps", "lefts", "gap"]
theorem sc_shows_worst : FnScope N_shows_worst ["look", "value"] (defScope s_shows_worst) := ⟨rfl, rfl, rfl, by decide +kernel, rfl, by decide +kernel, by decide +kernel⟩
/-- an own start that fits the look is told by its gap -/
def sp_shows (K : PySem.W.Frag) : Sp := fun vs H Q _ => ∃ (v : V) (x : Addr) (rows : List PRow) (last b : Nat) (c : Int) (F : Heaps) (Ls : List Int), vs = [v, .ref x] ∧ LookIs K H v rows last c ∧ WorstAt K H x F Ls ∧ last ≤ 6 ∧ b ≤ 31 ∧ (∀ r ∈ rows, -(b : Int) ≤ r.1 - r.2.1 ∧ r.1 + r.2.1 ≤ b) ∧ (c = 0 ∨ c = 1) ∧
  HOk F ∧ LOk Ls ∧ (∀ p ∈ F, p.1 % 2 = c ∧ -200 ≤ p.1 ∧ p.1 ≤ 200) ∧ ∀ H', Same H H' → Q (.bl (decide (gap2 rows last (gets F) (isIn Ls) = Reach rows last c))) H'
theorem fr_eqv {x y D : Int} (hD : 0 < D) : PyData.eqv (dF (lp x D)) (dF (lp y D)) = decide (x = y) := by
  have e : PyData.eqv (dF (lp x D)) (dF (lp y D)) = decide (lp x D = lp y D) := by
    show ((lp x D).1 == (lp y D).1 && ((lp x D).2 == (lp y D).2 && true)) = _
    by_cases h : lp x D = lp y D
    · rw [h, decide_eq_true rfl]; simp
    · rw [decide_eq_false h]
      by_cases h1 : (lp x D).1 = (lp y D).1
      · have h2 : ¬ (lp x D).2 = (lp y D).2 := fun h2 => h (Prod.ext h1 h2)
        simp [h2]
      · simp [h1]
  rw [e]
  by_cases h : x = y
  · rw [h, decide_eq_true rfl, decide_eq_true rfl]
  · rw [decide_eq_false h, decide_eq_false (fun e => h (lp_inj hD e))]
theorem O_shows_worst (T : Tx K mg) : Ok P w K mg base 10 (He.ga K "shows_worst") ["look", "value"] (sp_shows K) := by
  have O_need_lookD := O_need_lookD (P := P) (w := w) (base := base) T
  have O_need_leftsD := O_need_leftsD (P := P) (w := w) (base := base) T
  have O_is_start := O_is_start (P := P) (w := w) (base := base) T
  have O_kept_heaps := O_kept_heaps (P := P) (w := w) (base := base) T
  have O_both := O_both (P := P) (w := w) (base := base) T
  have O_worth_in := O_worth_in (P := P) (w := w) (base := base) T
  have O_turned := O_turned (P := P) (w := w) (base := base) T
  have O_mean_of_look := O_mean_of_look (P := P) (w := w) (base := base) T
  have O_reach_in := O_reach_in (P := P) (w := w) (base := base) T
  refine Ok.mk T.f_shows_worst sc_shows_worst (fun vs H Q E h => ?_) (fun _ _ _ _ _ _ us hl => match us, hl with | [_, _], _ => rfl) (fun cdv A outer s H vs Q E hr h => ?_)
  · obtain ⟨v, x, rows, last, b, c, F, Ls, rfl, _⟩ := h; rfl
  · obtain ⟨v, x, rows, last, b, c, F, Ls, rfl, li, wa, hl6, hb, hrb, h01, hok, lok, hc, k⟩ := h
    obtain ⟨dx, tt, y, z, hx, ty, tz⟩ := wa
    obtain ⟨y1, y2⟩ := T.y_Worst
    have hl := hok.len
    refine ⟨_, (pss_cons (ps_expr (pe_fnD O_need_lookD (hr.mono (by decide)) T.g_need_look (pa_cons (pv 0) pa_nil)))
      (pss_cons (ps_if (PW.pt (pw_or (pt_not (pt_val (pe_callB call_isi (by rfl) T.z_isinstance (by decide +kernel) (pa_cons (pv 1) (pa_cons (pe_glob (v := .ref (He.ga K "Worst")) (by rfl) T.g_Worst rfl) pa_nil))))) (pw_or1 (pt_not (pt_val (pe_fn O_is_start (hr.mono (by decide)) T.g_is_start (pa_cons (pv 0) (pa_cons (pe_fld (pv 1) rfl) (pa_cons (pe_fld (pv 1) rfl) pa_nil)))))))))
      (pss_one (ps_ret pe_bl))
      pss_nil)
      (pss_cons (ps_par (i := 2) (j := 3) rfl sc_shows_worst.nd rfl rfl (by decide) rfl rfl (pa_cons (pe_fn O_kept_heaps (hr.mono (by decide)) T.g_kept_heaps (pa_cons (pe_fld (pv 1) rfl) pa_nil)) (pa_cons (pe_fnD O_need_leftsD (hr.mono (by decide)) T.g_need_lefts (pa_cons (pe_fld (pv 1) rfl) pa_nil)) pa_nil)) (by rfl))
      (pss_cons (ps_set (i := 4) sc_shows_worst.nd rfl (.inl rfl) (pe_fn O_both (hr.mono (by decide)) T.g_both (pa_cons (pe_tup (pa_cons (pe_fn O_worth_in (hr.mono (by decide)) T.g_worth_in (pa_cons (pv 0) (pa_cons (pv 2) (pa_cons (pv 3) pa_nil)))) (pa_cons pe_int pa_nil))) (pa_cons (pe_fn O_turned (hr.mono (by decide)) T.g_turned (pa_cons (pe_fn O_mean_of_look (hr.mono (by decide)) T.g_mean_of_look (pa_cons (pv 0) (pa_cons (pv 2) pa_nil))) pa_nil)) pa_nil))))
      (pss_one (ps_ret (pe_cmpR (op_eqD hr.units) (pv 4) (pe_fn O_reach_in (hr.mono (by decide)) T.g_reach_in (pa_cons (pv 0) pa_nil)) (nomark _)))))))), ?_⟩
    refine ⟨_, rfl, v, .str "look", rows, last, c, rfl, li, _, rfl, _, _, _, _, true, rfl, .own _, .base (y2 hx), y1, _, rfl, ?_⟩
    refine iteF ⟨_, rfl, _, rfl, x, _, dx, _, _, rfl, hx, T.c_Worst, T.a_Worst_heaps, rfl, _, rfl, x, _, dx, _, _, rfl, hx, T.c_Worst, T.a_Worst_lefts, rfl, v, y, z, rows, last, c, F, Ls, rfl, li, ty, tz, hok, lok, fun p hp => (hc p hp).1, fun H1 s1 => ⟨_, rfl, iteF ?_⟩⟩
    have ty1 := ty.same s1
    have tz1 := tz.same s1
    have hx1 := s1 _ _ hx
    refine ⟨_, rfl, x, _, dx, _, _, rfl, hx1, T.c_Worst, T.a_Worst_heaps, rfl, y, F, rfl, ty1, by omega, fun y2' H2 F2 s2 pm hz2 => ?_⟩
    have s12 := s1.trans s2
    refine ⟨_, rfl, x, _, dx, _, _, rfl, s2 _ _ hx1, T.c_Worst, T.a_Worst_lefts, rfl, z, .str "lefts", Ls, rfl, tz1.same s2, lok, fun z2' H3 L2' s3 pm2 tz3 => ?_⟩
    have s13 := s12.trans s3
    refine ⟨_, _, rfl, ?_⟩
    have hz3 := (hz2.same s3).tp
    have hok2 : HOk F2 := ⟨by rw [pm.length_eq]; exact hok.len, ((pm.map (·.1)).nodup_iff).mpr hok.nd, fun p hp => hok.bd p (pm.mem_iff.mp hp)⟩
    have lok2 : LOk L2' := ⟨by rw [pm2.length_eq]; exact lok.len, (pm2.nodup_iff).mpr lok.nd, fun p hp => lok.bd p (pm2.mem_iff.mp hp)⟩
    refine ⟨_, rfl, _, rfl, _, rfl, v, y2', z2', rows, last, c, F2, L2', c, rfl, li.same s13, hl6, hz3, tz3, hok2, lok2, fun p hp => (hc p (pm.mem_iff.mp hp)).1, fun H4 s4 => ?_⟩
    have s14 := s13.trans s4
    have two := two_last hl6
    have hl2 := hok2.len
    refine ⟨(by show 2 ≤ sizeLine; decide), fun p hp => ?_⟩
    have s5 : Same H4 (upd H4 p (.tup [.int (lsum (fun r : PRow => r.2.2 * evH (gets F2) (isIn L2') r.2.1 r.1) rows), .int 1])) := same_new hp
    refine ⟨_, rfl, _, rfl, v, y2', rows, last, c, F2, rfl, li.same (s14.trans s5), hl6, (hz3.same s4).same s5, by omega, fun z5 H5 s6 f5 => ?_⟩
    refine ⟨z5, _, _, rfl, f5, fun z6 H6 s7 f6 => ?_⟩
    have e1 : lp (lsum (fun r : PRow => r.2.2 * evH (gets F2) (isIn L2') r.2.1 r.1) rows * 2 ^ last) (2 ^ last) = (lsum (fun r : PRow => r.2.2 * evH (gets F2) (isIn L2') r.2.1 r.1) rows, 1) := by
      have h := lp_mul (k := (2 : Int) ^ last) (a := lsum (fun r : PRow => r.2.2 * evH (gets F2) (isIn L2') r.2.1 r.1) rows) (b := 1) two.1
      rw [Int.mul_one, lp_one, Int.mul_comm] at h
      exact h
    refine ⟨.ref p, z6, lsum (fun r : PRow => r.2.2 * evH (gets F2) (isIn L2') r.2.1 r.1) rows * 2 ^ last, _, 2 ^ last, rfl, ?_, f6, two.1, by omega, fun z7 H7 s8 f7 => ?_⟩
    · show Tp _ _ _ _
      rw [e1]
      exact tpI (SqT.of ((s6.trans s7) _ _ upd_same))
    have s17 := (((s14.trans s5).trans s6).trans s7).trans s8
    refine ⟨_, rfl, _, rfl, v, rows, last, b, c, rfl, li.same s17, hl6, hb, hrb, h01, fun z8 H8 s9 f8 => ?_⟩
    refine ⟨_, _, (f7.same s9).dp, f8.dp, rfl, rfl, ?_⟩
    rw [fr_eqv two.1]
    have eg := gap_parts (rows := rows) (last := last) (F := F2) (Ls := L2') hok2.nd fun p hp => (hc p (pm.mem_iff.mp hp)).2
    have e3 : lsum (fun r : PRow => r.2.2 * evH (gets F2) (isIn L2') r.2.1 r.1) rows * 2 ^ last + -(meanL rows last F2) = gap2 rows last (gets F) (isIn Ls) := by
      rw [← isIn_perm pm2, ← funext fun k => gets_perm hok2.nd pm k, ← eg]
      rfl
    rw [e3]
    exact k _ (s17.trans s9)
end
end Nw
namespace Nw
open PySem PySem.Spec PyProof.Rows L2 Nd
theorem keys_pair {H : Hp} : ∀ (us : List Value) (L : List (Int × Int)), us.length = L.length → (∀ (j : Nat) (u : Value), us[j]? = some u → ∃ (d : Int × Int) (b : Addr), L[j]? = some d ∧ u = Value.ref b ∧ H b = some (.tup [.int d.1, .int d.2])) →
    ∃ bs : List Addr, us = bs.map Value.ref ∧ Paired (fun (d : Int × Int) b => H b = some (.tup [.int d.1, .int d.2])) L bs
  | [], [], _, _ => ⟨[], rfl, .nil⟩
  | u :: us, d :: L, hl, h => by
    obtain ⟨d', b, e1, e2, e3⟩ := h 0 u rfl
    obtain rfl : d = d' := Option.some.inj e1
    obtain ⟨bs, e4, p⟩ := keys_pair us L (by simpa using hl) fun j v hj => by
      obtain ⟨d2, b2, f1, f2, f3⟩ := h (j + 1) v (by simpa using hj)
      exact ⟨d2, b2, by simpa using f1, f2, f3⟩
    exact ⟨b :: bs, by rw [e2, e4]; rfl, .cons e3 p⟩
  | [], _ :: _, hl, _ => by simp at hl
  | _ :: _, [], hl, _ => by simp at hl
theorem paired_zip {α β : Type} {F : α → β → Prop} : ∀ {l : List α} {m : List β}, Paired F l m → ∀ z ∈ m.zip l, F z.2 z.1
  | _, _, .nil, _, h => by cases h
  | _, _, .cons h t, z, hz => by
    rw [List.zip_cons_cons, List.mem_cons] at hz
    rcases hz with rfl | hz
    · exact h
    · exact paired_zip t z hz
section
variable {X : Cx}
theorem call_repr_bl : CallR X (.builtin "repr") (fun xs H Q => ∃ b : Bool, xs = [.bl b] ∧ Q (.str (if b = true then "True" else "False")) H) := by
  intro pins s σ H xs us Q I r h
  obtain ⟨b, rfl, q⟩ := h
  obtain ⟨u, rfl, rx⟩ := vals1 r
  cases (show u = Value.bool b from rx)
  exact PySem.P.repr_of_bool ⟨.str _, H, I.tok _, ⟨_, rfl⟩, q⟩
/-- sorted(d) of a dict whose keys are pairs of ints -/
def pKey (d : Int × Int) : List Key := [Sum.inl d.1, Sum.inl d.2]
def rSortDT : List V → Hp → VK → Prop := fun vs H Q => ∃ (a : Addr) (kvs : List (List Key × V)) (L : List (Int × Int)), vs = [.ref a] ∧ H a = some (.dT kvs) ∧ kvs.map (·.1) = L.map pKey ∧
  ∀ (l : Addr) (as : List Addr) (L' : List (Int × Int)), H l = none → L'.Perm L → Paired (fun (d : Int × Int) a => H a = some (.tup [.int d.1, .int d.2])) L' as → Q (.ref l) (upd H l (.lst (as.map V.ref)))
theorem cr_sortedDT (hc : X.calm = true) : CallR X (.builtin "sorted") rSortDT := by
  intro pins s σ H xs us Q I r h
  obtain ⟨a, kvs, L, rfl, ha, hk, q⟩ := h
  obtain rfl := Vals.ref1 r
  obtain ⟨z, lo, xs, rel, o, es, ep, ho, hx, hdat, he, _⟩ := dt_of I.hok ha
  have l1 : es.size = xs.length := size_of_entries he
  have l2 : kvs.length = xs.length := Paired.length rel
  have l3 : kvs.length = L.length := by
    have := congrArg List.length hk
    rw [List.length_map, List.length_map] at this
    exact this
  have hh : X.A.handled = none := I.ok.hd hc
  have ent : ∀ (j : Nat) (en : DictEntry), es[j]? = some en → ∃ (d : Int × Int) (b : Addr), L[j]? = some d ∧ en.key = Value.ref b ∧ H b = some (.tup [.int d.1, .int d.2]) := by
    intro j en hen
    have hj : j < es.size := (Array.getElem?_eq_some_iff.mp hen).1
    have hjk : kvs[j]? = some kvs[j] := List.getElem?_eq_getElem (by omega)
    have hjL : L[j]? = some (L[j]'(by omega)) := List.getElem?_eq_getElem (by omega)
    obtain ⟨b, hb, e1, e2, e3⟩ := L2.paired_get rel hjk
    have qe := entry_at he j
    rw [hb] at qe
    have e4 : en = _ := Option.some.inj (hen.symm.trans qe)
    have e5 : (kvs.map (·.1))[j]? = (L.map pKey)[j]? := by rw [hk]
    rw [List.getElem?_map, List.getElem?_map, hjk, hjL] at e5
    have e6 : kvs[j].1 = pKey (L[j]'(by omega)) := Option.some.inj e5
    refine ⟨L[j]'(by omega), b.2.1, hjL, by rw [e4]; rfl, ?_⟩
    rw [e6] at e2
    exact e2
  have pairAt : ∀ {h' : Heap} {b : Addr} {d : Int × Int}, (∀ b o, s.heap.get? b = some o → h'.get? b = some o) → H b = some (.tup [.int d.1, .int d.2]) → ∃ (oo : Obj) (t1 t2 : Tok) (n : Nat), h'.get? b = some oo ∧ oo.cls = .type "tuple" ∧ oo.data = .seq #[Value.int d.1 t1, Value.int d.2 t2] n := by
    intro h' b d hkp hb
    obtain ⟨_, its, rv, oo, h1, h2, n, h3⟩ := (show ObjOk X.prog X.w H s.heap b (.tup [.int d.1, .int d.2]) from I.hok b _ hb)
    obtain ⟨u, y, ei, ru, ry⟩ := vals2 rv
    subst ei
    obtain ⟨t1, rfl⟩ := ru
    obtain ⟨t2, rfl⟩ := ry
    exact ⟨oo, t1, t2, n, hkp _ _ h1, h2, h3⟩
  refine sorted_any (G := fun h' us => (∀ b o, s.heap.get? b = some o → h'.get? b = some o) ∧ ∃ bs : List Addr, us = bs.map Value.ref ∧ Paired (fun (d : Int × Int) b => H b = some (.tup [.int d.1, .int d.2])) L bs) (ltv := fun h' v u => SrtO.lexB (pairH h' v) (pairH h' u)) (fun h' => SrtO.swo_lex _)
    (fun R k => ?_) (fun h' us => ?_) (fun h' tk us hk1 hg h2 => ?_) (fun h' tk us out h2 hk1 hg h3 h4 hk2 hn => ?_)
  · refine PySem.W.kdu_collect (A := X.A.in1) (kdl_raw lo hx hdat) hh ho (by omega) fun h' tk acc hkp hacc => ?_
    refine k h' tk _ hkp ⟨hkp, keys_pair _ _ (by rw [Array.length_toList, hacc.1]; omega) fun j u hu => ?_⟩
    obtain ⟨en, e1, e2⟩ := hacc.2 j u (by rw [← Array.getElem?_toList]; exact hu)
    obtain ⟨d, b, f1, f2, f3⟩ := ent j en e1
    exact ⟨d, b, f1, by rw [e2, f2], f3⟩
  · rintro ⟨_, bs, rfl, hp⟩
    rw [List.length_map, ← Paired.length hp]
    omega
  · obtain ⟨hkp, bs, rfl, hp⟩ := hg
    refine SrtO.pairs_sortableO (k := pairH h') (by omega) (fun v hv => ?_) (fun o e => ?_)
    · obtain ⟨b, hb, rfl⟩ := List.mem_map.mp hv
      obtain ⟨j, hj⟩ := List.mem_iff_getElem?.mp hb
      obtain ⟨d, _, hd⟩ : ∃ d, L[j]? = some d ∧ H b = some (.tup [.int d.1, .int d.2]) := DX.pget hp hj
      obtain ⟨oo, t1, t2, n, g1, g2, g3⟩ := pairAt hkp hd
      rw [pairH_eq g1 g3]
      exact ⟨b, oo, t1, t2, n, rfl, Heap.get?_push_of_some _ g1, g2, g3⟩
    · have e' : some o = some (seqObj "list" (bs.map Value.ref).toArray 0) := e.symm.trans (Heap.get?_push_size _ rfl)
      cases e'
      intro c
      exact absurd (Value.type.inj c) (by decide)
  · obtain ⟨hkp, bs, rfl, hp⟩ := hg
    have lb : L.length = bs.length := Paired.length hp
    obtain ⟨zs, pz, ez⟩ := perm_lift (fun z : Addr × Int × Int => Value.ref z.1) h4.perm (bs.zip L) (by
      rw [show (fun z : Addr × Int × Int => Value.ref z.1) = Value.ref ∘ Prod.fst from rfl, ← List.map_map, List.map_fst_zip (by omega)])
    have hperm : (zs.map (·.2)).Perm L := by
      have e := pz.map (·.2)
      have m2 : (bs.zip L).map (·.2) = L := List.map_snd_zip (by omega)
      rw [m2] at e
      exact e
    have I1 : Inv X pins σ H { s with heap := h', toks := tk } := I.kept (t' := tk) hk1
    have rv : Vals ((zs.map (·.1)).map V.ref) out := by
      rw [← ez, List.map_map]
      exact vals_maps (fun z : Addr × Int × Int => V.ref z.1) (fun z => Value.ref z.1) zs fun _ _ => rfl
    have hlen : ((zs.map (·.1)).map V.ref).length ≤ sizeLine := by
      have e := hperm.length_eq
      rw [List.length_map] at e
      rw [List.length_map, List.length_map]
      omega
    obtain ⟨eF, heF⟩ := hn
    exact ⟨.ref h'.objs.size, upd H h'.objs.size (.lst ((zs.map (·.1)).map V.ref)), I1.laid (t' := tk) hk2 (Nat.le_refl _) ⟨hlen, out, eF, rv, heF⟩, rfl, q _ _ _ (I1.hok.fresh (Nat.le_refl _)) hperm (paired_two zs fun z hz => paired_zip hp z (pz.mem_iff.mp hz))⟩
end
end Nw
namespace Nw
open PySem PySem.Spec PyProof.Rows L2 Nd
/-- the breeze: its cells, how many were begun, what is left of a great one -/
def Brz (K : PySem.W.Frag) (H : Hp) (B : Addr) (n : Nat) : Prop := ∃ (C : Addr) (cs : List Int) (at_ : Nat) (rest : Int), H B = some (.lst [.ref C, .int at_, .int rest]) ∧ H C = some (.lst (cs.map V.int)) ∧ cs.length ≤ 63 ∧ at_ ≤ n ∧ 0 ≤ rest
theorem Brz.same {K : PySem.W.Frag} {H H' : Hp} {B : Addr} {n : Nat} (h : Brz K H B n) (s : Same H H') : Brz K H' B n := by
  obtain ⟨C, cs, a, r, h1, h2, h3⟩ := h
  exact ⟨C, cs, a, r, s _ _ h1, s _ _ h2, h3⟩
section
variable {P : Program} {w : World} {K : PySem.W.Frag} {mg : Str → Option Value} {base : Heap}
abbrev N_law_breeze : List Str := ["_law_script", "_law_cell"]
theorem sc_law_breeze : FnScope N_law_breeze ["_law_script"] (defScope s_law_breeze) := ⟨rfl, rfl, rfl, by decide +kernel, rfl, by decide +kernel, by decide +kernel⟩
def sp_breeze (K : PySem.W.Frag) : Sp := fun vs H Q _ => ∃ (a : Addr) (ns : List Int), vs = [.ref a] ∧ SqL K H a (ns.map V.int) ∧ ns.length ≤ 63 ∧ ∀ B H', Same H H' → Brz K H' B 0 → Q (.ref B) H'
theorem O_law_breeze (T : Tx K mg) : Ok P w K mg base 1 (He.ga K "_law_breeze") ["_law_script"] (sp_breeze K) := by
  refine Ok.mk T.f_law_breeze sc_law_breeze (fun vs H Q E h => ?_) (fun _ _ _ _ _ _ us hl => match us, hl with | [_], _ => rfl) (fun cdv A outer s H vs Q E hr h => ?_)
  · obtain ⟨a, ns, rfl, _⟩ := h; rfl
  · obtain ⟨a, ns, rfl, ha, hl, k⟩ := h
    refine ⟨_, (pss_one (ps_ret (pe_lst (pa_cons (pe_lc (own := [("_law_cell", 1)]) rfl sc_law_breeze.nd (pi_list (pe_slice sl_list (pv 0) po_none (po_some pe_int))) (blkOk_by (N := N_law_breeze) (sc := defScope s_law_breeze) (by decide +kernel)) (fun _ _ _ _ _ => (pg_name (i := 1) sc_law_breeze.nd rfl (.inl rfl) (by first | exact .inl rfl | exact .inr rfl))) (fun _ _ _ _ _ => pts_nil) (fun _ _ _ _ _ => (pe_callTy call_int1 (by rfl) T.z_int (by decide +kernel) (pa_cons (pv 1) pa_nil)))) (pa_cons pe_int (pa_cons pe_int pa_nil)))))), ?_⟩
    have ec : cutV (ns.map V.int) none (some 63) = ns.map V.int := by
      unfold cutV
      have e1 : HT.sIx (ns.map V.int).length 0 none = 0 := rfl
      have e2 : HT.sIx (ns.map V.int).length (ns.map V.int).length (some 63) = (ns.map V.int).length := by
        have := HT.sIx_nat (ns.map V.int).length (ns.map V.int).length 63
        rw [show ((63 : Nat) : Int) = 63 from rfl] at this
        rw [this, List.length_map]
        omega
      rw [e1, e2, List.drop_zero, Nat.sub_zero, List.take_length]
    refine ⟨_, rfl, 63, rfl, a, _, rfl, ha, fun p0 hp0 => ?_⟩
    rw [ec]
    have s0 : Same H (upd H p0 (.lst (ns.map V.int))) := same_new hp0
    have h0 : SqL K (upd H p0 (.lst (ns.map V.int))) p0 (ns.map V.int) := SqL.of upd_same
    refine ⟨p0, rfl, ⟨_, h0⟩, fun D hD => lc_src (Src.list (K := K) (a := p0) (xs := ns.map V.int)) (K := K) hD (fun d y _ => y = d) (fun _ => true) (fun H' s2 => s2.seq h0) (fun _ _ _ _ _ h => h) (by rw [List.length_map]; omega) (fun i d x H1 Q1 Q0 s2 hi hx k1 _ => ?_) (fun H2 ys s2 hD2 hp => ?_)⟩
    · subst hx
      rw [List.getElem?_map] at hi
      obtain ⟨n, _, rfl⟩ := Option.map_eq_some_iff.mp hi
      exact ⟨rfl, yes_ ⟨_, rfl, .inl ⟨_, rfl, k1 rfl _ _ (Same.refl _) rfl⟩⟩⟩
    · rw [List.filter_eq_self.mpr (by simp)] at hp
      have e := paired_val (f := fun d : V => d) hp
      rw [List.map_id'] at e
      subst e
      refine ⟨(by show 3 ≤ sizeLine; decide), fun B hB => k B _ ((s0.trans s2).trans (same_new hB)) ⟨D, ns, 0, 0, upd_same, same_new hB _ _ hD2, hl, Nat.le_refl _, by decide⟩⟩
abbrev N_law_puff : List Str := ["_law_breeze_here", "_law_many", "_law_rest", "_law_at", "_law_cell", "_law_mixed"]
theorem sc_law_puff : FnScope N_law_puff ["_law_breeze_here", "_law_many"] (defScope s_law_puff) := ⟨rfl, rfl, rfl, by decide +kernel, rfl, by decide +kernel, by decide +kernel⟩
def sp_puff (K : PySem.W.Frag) : Sp := fun vs H Q _ => ∃ (B : Addr) (n many : Nat), vs = [.ref B, .int many] ∧ Brz K H B n ∧ n ≤ 1000 ∧ 1 ≤ many ∧ many ≤ 1000 ∧ ∀ (r : Nat) H', SameX B H H' → Brz K H' B (n + 1) → r < many → Q (.int r) H'
theorem O_law_puff (T : Tx K mg) : Ok P w K mg base 1 (He.ga K "_law_puff") ["_law_breeze_here", "_law_many"] (sp_puff K) := by
  refine Ok.mk T.f_law_puff sc_law_puff (fun vs H Q E h => ?_) (fun _ _ _ _ _ _ us hl => match us, hl with | [_, _], _ => rfl) (fun cdv A outer s H vs Q E hr h => ?_)
  · obtain ⟨B, n, many, rfl, _⟩ := h; rfl
  · obtain ⟨B, n, many, rfl, hb, hn, h1, h2, k⟩ := h
    refine ⟨_, (pss_cons (ps_if (pt_cmpR op_gt (pe_ix ix_list (pv 0) pe_int (fun _ _ => rfl)) pe_int (nomark _))
      (pss_cons (ps_set (i := 2) sc_law_puff.nd rfl (.inl rfl) (pe_callTy call_int1 (by rfl) T.z_int (by decide +kernel) (pa_cons (pe_ix ix_list (pv 0) pe_int (fun _ _ => rfl)) pa_nil)))
      (pss_cons (ps_asg (pe_op op_fdiv (pv 2) (pv 1)) (pg_sub (pv 0) pe_int set_list))
      (pss_one (ps_ret (pe_op op_mod (pe_callTy call_int1 (by rfl) T.z_int (by decide +kernel) (pa_cons (pv 2) pa_nil)) (pv 1))))))
      pss_nil)
      (pss_cons (ps_set (i := 3) sc_law_puff.nd rfl (.inl rfl) (pe_ix ix_list (pv 0) pe_int (fun _ _ => rfl)))
      (pss_cons (ps_asg (pe_op op_add (pv 3) pe_int) (pg_sub (pv 0) pe_int set_list))
      (pss_cons (ps_set (i := 4) sc_law_puff.nd rfl (.inl rfl) (pe_op op_add (pe_op op_mul pe_int (pv 3)) pe_int))
      (pss_cons (ps_if (pt_cmpR (op_neD hr.units) (pe_ix ix_list (pv 0) pe_int (fun _ _ => rfl)) (pe_lst pa_nil) (nomark _))
      (pss_one (ps_set (i := 4) sc_law_puff.nd rfl (.inl rfl) (pe_ix ix_list (pe_ix ix_list (pv 0) pe_int (fun _ _ => rfl)) (pe_op op_mod (pe_callTy call_int1 (by rfl) T.z_int (by decide +kernel) (pa_cons (pv 3) pa_nil)) (pe_callB call_len_seq (by rfl) T.z_len (by decide +kernel) (pa_cons (pe_ix ix_list (pv 0) pe_int (fun _ _ => rfl)) pa_nil))) (fun _ _ => rfl))))
      pss_nil)
      (pss_cons (ps_if (PW.pt (pw_and (pt_cmpR op_lt (pv 3) (pe_callB call_len_seq (by rfl) T.z_len (by decide +kernel) (pa_cons (pe_ix ix_list (pv 0) pe_int (fun _ _ => rfl)) pa_nil)) (nomark _)) (pw_and1 (pt_cmpR op_ge (pe_callB call_abs (by rfl) T.z_abs (by decide +kernel) (pa_cons (pv 4) pa_nil)) (pe_op op_pow pe_int pe_int) (nomark _)))))
      (pss_cons (ps_set (i := 2) sc_law_puff.nd rfl (.inl rfl) (pe_op op_add (pe_op op_mul pe_int (pe_op op_sub (pe_callB call_abs (by rfl) T.z_abs (by decide +kernel) (pa_cons (pv 4) pa_nil)) (pe_op op_pow pe_int pe_int))) (pe_callTy call_int1 (by rfl) T.z_int (by decide +kernel) (pa_cons (pe_cmpR op_lt (pv 4) pe_int (nomark _)) pa_nil))))
      (pss_cons (ps_asg (pe_op op_fdiv (pe_callTy call_int1 (by rfl) T.z_int (by decide +kernel) (pa_cons (pv 2) pa_nil)) (pv 1)) (pg_sub (pv 0) pe_int set_list))
      (pss_one (ps_ret (pe_op op_mod (pe_callTy call_int1 (by rfl) T.z_int (by decide +kernel) (pa_cons (pv 2) pa_nil)) (pv 1))))))
      pss_nil)
      (pss_cons (ps_set (i := 5) sc_law_puff.nd rfl (.inl rfl) (pe_op op_mod (pe_callTy call_int1 (by rfl) T.z_int (by decide +kernel) (pa_cons (pe_op op_pow (pe_op op_add (pe_op op_add (pe_op op_mod (pe_callTy call_int1 (by rfl) T.z_int (by decide +kernel) (pa_cons (pv 4) pa_nil)) pe_int) (pe_op op_mul pe_int (pv 3))) pe_int) pe_int) pa_nil)) pe_int))
      (pss_cons (ps_set (i := 5) sc_law_puff.nd rfl (.inl rfl) (pe_op op_mod (pe_callTy call_int1 (by rfl) T.z_int (by decide +kernel) (pa_cons (pe_op op_pow (pe_op op_add (pe_op op_add (pe_op op_mul (pv 5) (pe_op op_add (pe_op op_mul pe_int (pv 3)) pe_int)) (pe_op op_mul (pe_op op_mul pe_int (pv 3)) (pv 3))) pe_int) pe_int) pa_nil)) pe_int))
      (pss_one (ps_ret (pe_op op_mod (pe_callTy call_int1 (by rfl) T.z_int (by decide +kernel) (pa_cons (pe_op op_fdiv (pv 5) pe_int) pa_nil)) (pv 1)))))))))))), ?_⟩
    obtain ⟨C, cs, a0, r0, hB, hC, hcl, han, hr0⟩ := hb
    have hBl : SqL K H B [.ref C, .int a0, .int r0] := SqL.of hB
    have put : ∀ {H : Hp} {o : HO}, SameX B H (upd H B o) := fun b o hne e => by rw [upd_ne hne]; exact e
    have cdiv : ∀ x : Int, CDiv x (many : Int) := fun x => ⟨by omega, by omega⟩
    have pos : (0 : Int) < (many : Int) := by omega
    have hCB : C ≠ B := fun e => by rw [e, hB] at hC; cases cs <;> simp at hC
    have md : ∀ x : Int, 0 ≤ x % (many : Int) ∧ x % (many : Int) < many := fun x => ⟨Int.emod_nonneg _ (by omega), Int.emod_lt_of_pos _ (by omega)⟩
    have fin : ∀ {x : Int} {H' : Hp}, SameX B H H' → Brz K H' B (n + 1) → Q (.int (x % (many : Int))) H' := fun {x H'} sx hb => by
      have := md x
      have e : x % (many : Int) = ((x % (many : Int)).toNat : Nat) := by omega
      rw [e]
      exact k _ _ sx hb (by omega)
    have pw1 : ∀ c : Int, (c % 2147483629 + 31657 * (a0 : Int) + 5573).natAbs < 2 ^ 64 := fun c => by
      have := Int.emod_nonneg c (show (2147483629 : Int) ≠ 0 by decide)
      have := Int.emod_lt_of_pos c (show (0 : Int) < 2147483629 by decide)
      omega
    have mb2 : 0 ≤ 2 * (a0 : Int) + 2957 ∧ 2 * (a0 : Int) + 2957 ≤ 5000 := by omega
    have pw2 : ∀ c : Int, (c % 2147483549 * (2 * (a0 : Int) + 2957) + 71711 * (a0 : Int) * (a0 : Int) + 31657).natAbs < 2 ^ 64 := fun c => by
      have := Int.emod_nonneg c (show (2147483549 : Int) ≠ 0 by decide)
      have := Int.emod_lt_of_pos c (show (0 : Int) < 2147483549 by decide)
      have m1 := mul_abs (x := c % 2147483549) (y := 2 * (a0 : Int) + 2957) (a := 2147483549) (b := 5000) (by omega) (by omega)
      have m2 := mul_abs (x := 71711 * (a0 : Int)) (y := (a0 : Int)) (a := 71711000) (b := 1000) (by omega) (by omega)
      omega
    refine ⟨_, rfl, B, _, 2, _, rfl, rfl, hBl, rfl, _, _, rfl, rfl, _, rfl, ?_⟩
    by_cases h0 : (0 : Int) < r0
    · refine dT h0 ?_
      refine ⟨_, rfl, B, _, 2, _, rfl, rfl, hBl, rfl, .inl ⟨_, rfl, ?_⟩⟩
      refine ⟨_, rfl, _, rfl, _, _, rfl, rfl, cdiv _, _, rfl, B, _, 2, 2, rfl, rfl, hB, rfl, _, rfl, .inl ⟨_, rfl, _, rfl, _, _, rfl, rfl, pos, ?_⟩⟩
      exact fin put ⟨C, cs, a0, r0 / many, upd_same, put _ _ hCB hC, hcl, by omega, Int.ediv_nonneg hr0 (by omega)⟩
    refine dFa h0 ?_
    refine ⟨_, rfl, B, _, 1, _, rfl, rfl, hBl, rfl, ?_⟩
    refine ⟨_, rfl, _, _, rfl, rfl, _, rfl, B, _, 1, 1, rfl, rfl, hB, rfl, ?_⟩
    have sx : SameX B H (upd H B (.lst [.ref C, .int ((a0 : Int) + 1), .int r0])) := put
    have hB1 : (upd H B (.lst [.ref C, .int ((a0 : Int) + 1), .int r0])) B = some (.lst [.ref C, .int ((a0 : Int) + 1), .int r0]) := upd_same
    have hC1 := sx _ _ hCB hC
    obtain ⟨H1, eH1⟩ : ∃ H1, H1 = upd H B (.lst [.ref C, .int ((a0 : Int) + 1), .int r0]) := ⟨_, rfl⟩
    rw [← eH1] at sx hB1 hC1
    have eH2 : upd H B (.lst ([V.ref C, V.int a0, V.int r0].set 1 ((fun i j : Int => V.int (i + j)) (a0 : Int) 1))) = H1 := eH1.symm
    rw [eH2]
    refine ⟨_, rfl, _, _, rfl, rfl, .inl (by omega), _, _, rfl, rfl, ?_⟩
    have hBl1 : SqL K H1 B [.ref C, .int ((a0 : Int) + 1), .int r0] := SqL.of hB1
    have hCl1 : SqL K H1 C (cs.map V.int) := SqL.of hC1
    refine ⟨_, rfl, B, _, 0, _, rfl, rfl, hBl1, rfl, (by show 0 ≤ sizeLine; decide), fun p hp => ?_⟩
    have s2 : Same H1 (upd H1 p (.lst [])) := same_new hp
    have sx2 : SameX B H (upd H1 p (.lst [])) := fun b o hne e => s2 _ _ (sx b o hne e)
    have hn2 : SqL K (upd H1 p (.lst [])) p [] := SqL.of upd_same
    have hB2 := s2 _ _ hB1
    have hC2 := s2 _ _ hC1
    have hBl2 := s2.seq hBl1
    have hCl2 := s2.seq hCl1
    refine ⟨.list (cs.map PyData.int), .list [], .lst hCl2 (tpAll_ints cs).dp, .lst hn2 .nil, ?_, rfl, _, rfl, ?_⟩
    · exact shaped_ints cs
    generalize upd H1 p (.lst []) = H2 at s2 sx2 hn2 hB2 hC2 hBl2 hCl2
    by_cases hcs : cs = []
    · subst hcs
      refine iteF ?_
      refine ⟨_, rfl, _, rfl, B, _, 0, _, rfl, rfl, hBl2, rfl, C, _, rfl, .inl hCl2, _, _, rfl, rfl, _, rfl, dFa (by simp) (iteF ?_)⟩
      refine ⟨_, rfl, .inl ⟨_, rfl, _, _, rfl, rfl, (show (0 : Int) < 2147483629 by decide), _, rfl, _, _, rfl, rfl, .inl (by omega), _, _, rfl, rfl, _, _, rfl, rfl, _, _, rfl, rfl, ⟨by decide, by decide, pw1 _⟩, .inl ⟨_, rfl, _, _, rfl, rfl, (show (0 : Int) < 2147483549 by decide), ?_⟩⟩⟩
      refine ⟨_, rfl, _, rfl, _, _, rfl, rfl, .inl (by omega), _, _, rfl, rfl, _, _, rfl, rfl, (by have := mb2; exact .inr (by omega)), _, rfl, _, _, rfl, rfl, .inl (by omega), _, rfl, _, _, rfl, rfl, .inr (by omega), _, _, rfl, rfl, _, _, rfl, rfl, _, _, rfl, rfl, ⟨by decide, by decide, pw2 _⟩, .inl ⟨_, rfl, _, _, rfl, rfl, (show (0 : Int) < 2147483587 by decide), ?_⟩⟩
      refine ⟨_, rfl, _, _, rfl, rfl, ⟨by decide, by decide⟩, .inl ⟨_, rfl, _, rfl, _, _, rfl, rfl, pos, ?_⟩⟩
      exact fin sx2 ⟨C, [], a0 + 1, r0, hB2, hC2, hcl, by omega, hr0⟩
    have hlen : 0 < cs.length := List.length_pos_iff.mpr hcs
    have eb : PyData.eqv (PyData.list (cs.map PyData.int)) (PyData.list []) = false := by
      cases cs with
      | nil => exact absurd rfl hcs
      | cons x xs => rfl
    rw [eb]
    have hj : (a0 : Int) % ((cs.map V.int).length : Nat) = ((a0 % cs.length : Nat) : Int) := by rw [List.length_map]; rfl
    have hjl : a0 % cs.length < cs.length := Nat.mod_lt _ hlen
    have hget : atI (cs.map V.int) ((a0 % cs.length : Nat) : Int) = some (V.int (cs[a0 % cs.length]'hjl)) := atI_nat (by rw [List.getElem?_map, List.getElem?_eq_getElem hjl]; rfl)
    generalize cs[a0 % cs.length]'hjl = cell at hget
    refine iteT ⟨_, rfl, B, _, 0, _, rfl, rfl, hBl2, rfl, _, rfl, .inl ⟨_, rfl, _, rfl, B, _, 0, _, rfl, rfl, hBl2, rfl, C, _, rfl, .inl hCl2, _, _, rfl, rfl, by rw [List.length_map]; omega, C, _, _, _, rfl, (by show V.int (_ % _) = _; rw [hj]), hCl2, hget, ?_⟩⟩
    refine ⟨_, rfl, _, rfl, B, _, 0, _, rfl, rfl, hBl2, rfl, C, _, rfl, .inl hCl2, _, _, rfl, rfl, _, rfl, ?_⟩
    by_cases hlt : (a0 : Int) < ((cs.map V.int).length : Nat)
    · refine dT hlt ?_
      refine ⟨_, rfl, _, rfl, _, _, rfl, rfl, ⟨by decide, by decide, by decide⟩, _, _, rfl, rfl, _, rfl, ?_⟩
      by_cases hbig : (10 : Int) ^ (18 : Int).toNat ≤ (if cell < 0 then -cell else cell)
      · refine dT hbig ?_
        refine ⟨_, rfl, _, rfl, _, _, rfl, rfl, ⟨by decide, by decide, by decide⟩, _, _, rfl, rfl, _, _, rfl, rfl, .inl (by decide), _, rfl, _, _, rfl, rfl, .inr ⟨_, rfl, _, _, rfl, rfl, ?_⟩⟩
        have hr2 : 0 ≤ 2 * ((if cell < 0 then -cell else cell) - (10 : Int) ^ (18 : Int).toNat) + (if decide (cell < 0) = true then 1 else 0) := by
          have : (0 : Int) ≤ if decide (cell < 0) = true then 1 else 0 := by split <;> decide
          omega
        refine ⟨_, rfl, .inl ⟨_, rfl, _, rfl, _, _, rfl, rfl, cdiv _, _, rfl, B, _, 2, 2, rfl, rfl, hB2, rfl, ?_⟩⟩
        refine ⟨_, rfl, .inl ⟨_, rfl, _, rfl, _, _, rfl, rfl, pos, ?_⟩⟩
        exact fin (fun b o hne e => put b o hne (sx2 b o hne e)) ⟨C, cs, a0 + 1, _, upd_same, put _ _ hCB hC2, hcl, by omega, Int.ediv_nonneg hr2 (by omega)⟩
      refine dFa hbig ?_
      refine ⟨_, rfl, .inl ⟨_, rfl, _, _, rfl, rfl, (show (0 : Int) < 2147483629 by decide), _, rfl, _, _, rfl, rfl, .inl (by omega), _, _, rfl, rfl, _, _, rfl, rfl, _, _, rfl, rfl, ⟨by decide, by decide, pw1 _⟩, .inl ⟨_, rfl, _, _, rfl, rfl, (show (0 : Int) < 2147483549 by decide), ?_⟩⟩⟩
      refine ⟨_, rfl, _, rfl, _, _, rfl, rfl, .inl (by omega), _, _, rfl, rfl, _, _, rfl, rfl, (by have := mb2; exact .inr (by omega)), _, rfl, _, _, rfl, rfl, .inl (by omega), _, rfl, _, _, rfl, rfl, .inr (by omega), _, _, rfl, rfl, _, _, rfl, rfl, _, _, rfl, rfl, ⟨by decide, by decide, pw2 _⟩, .inl ⟨_, rfl, _, _, rfl, rfl, (show (0 : Int) < 2147483587 by decide), ?_⟩⟩
      refine ⟨_, rfl, _, _, rfl, rfl, ⟨by decide, by decide⟩, .inl ⟨_, rfl, _, rfl, _, _, rfl, rfl, pos, ?_⟩⟩
      exact fin sx2 ⟨C, cs, a0 + 1, r0, hB2, hC2, hcl, by omega, hr0⟩
    refine dFa hlt (iteF ?_)
    refine ⟨_, rfl, .inl ⟨_, rfl, _, _, rfl, rfl, (show (0 : Int) < 2147483629 by decide), _, rfl, _, _, rfl, rfl, .inl (by omega), _, _, rfl, rfl, _, _, rfl, rfl, _, _, rfl, rfl, ⟨by decide, by decide, pw1 _⟩, .inl ⟨_, rfl, _, _, rfl, rfl, (show (0 : Int) < 2147483549 by decide), ?_⟩⟩⟩
    refine ⟨_, rfl, _, rfl, _, _, rfl, rfl, .inl (by omega), _, _, rfl, rfl, _, _, rfl, rfl, (by have := mb2; exact .inr (by omega)), _, rfl, _, _, rfl, rfl, .inl (by omega), _, rfl, _, _, rfl, rfl, .inr (by omega), _, _, rfl, rfl, _, _, rfl, rfl, _, _, rfl, rfl, ⟨by decide, by decide, pw2 _⟩, .inl ⟨_, rfl, _, _, rfl, rfl, (show (0 : Int) < 2147483587 by decide), ?_⟩⟩
    refine ⟨_, rfl, _, _, rfl, rfl, ⟨by decide, by decide⟩, .inl ⟨_, rfl, _, rfl, _, _, rfl, rfl, pos, ?_⟩⟩
    exact fin sx2 ⟨C, cs, a0 + 1, r0, hB2, hC2, hcl, by omega, hr0⟩
abbrev N_law_one : List Str := ["_law_breeze_here", "_law_some"]
theorem sc_law_one : FnScope N_law_one ["_law_breeze_here", "_law_some"] (defScope s_law_one) := ⟨rfl, rfl, rfl, by decide +kernel, rfl, by decide +kernel, by decide +kernel⟩
def sp_one (K : PySem.W.Frag) : Sp := fun vs H Q _ => ∃ (B S : Addr) (n : Nat) (ns : List Int), vs = [.ref B, .ref S] ∧ Brz K H B n ∧ n ≤ 1000 ∧ H S = some (.lst (ns.map V.int)) ∧ ns ≠ [] ∧ ns.length ≤ 1000 ∧ ∀ r H', SameX B H H' → Brz K H' B (n + 1) → r ∈ ns → Q (.int r) H'
theorem O_law_one (T : Tx K mg) : Ok P w K mg base 2 (He.ga K "_law_one") ["_law_breeze_here", "_law_some"] (sp_one K) := by
  have O_law_puff := O_law_puff (P := P) (w := w) (base := base) T
  refine Ok.mk T.f_law_one sc_law_one (fun vs H Q E h => ?_) (fun _ _ _ _ _ _ us hl => match us, hl with | [_, _], _ => rfl) (fun cdv A outer s H vs Q E hr h => ?_)
  · obtain ⟨B, S, n, ns, rfl, _⟩ := h; rfl
  · obtain ⟨B, S, n, ns, rfl, hb, hn, hS, hne, hl, k⟩ := h
    refine ⟨_, (pss_one (ps_ret (pe_ix ix_list (pv 1) (pe_fn O_law_puff (hr.mono (by decide)) T.g__law_puff (pa_cons (pv 0) (pa_cons (pe_callB call_len_seq (by rfl) T.z_len (by decide +kernel) (pa_cons (pv 1) pa_nil)) pa_nil))) (fun _ _ => rfl)))), ?_⟩
    have hSB : S ≠ B := fun e => by
      obtain ⟨C, cs, a0, r0, hB, _⟩ := hb
      rw [e, hB] at hS
      match ns, hS with
      | [], hS => simp at hS
      | x :: xs, hS => simp at hS
    have hln : 0 < ns.length := List.length_pos_iff.mpr hne
    refine ⟨_, rfl, _, rfl, _, rfl, S, _, rfl, .inl (SqL.of hS), B, n, (ns.map V.int).length, rfl, hb, hn, by rw [List.length_map]; omega, by rw [List.length_map]; omega, fun r H' sx hb' hr => ?_⟩
    rw [List.length_map] at hr
    refine ⟨S, _, _, V.int (ns[r]'hr), rfl, rfl, SqL.of (sx _ _ hSB hS), atI_nat (by rw [List.getElem?_map, List.getElem?_eq_getElem hr]; rfl), k _ _ sx hb' (List.getElem_mem hr)⟩
end
end Nw
namespace Nw
open PySem PySem.Spec PyProof.Rows L2 Nd
/-- the drawn rows of a look -/
structure Drawn (rows : List PRow) (most last : Nat) (col : Int) : Prop where
  len : rows.length ≤ most
  nd : (rows.map rowKey).Nodup
  bd : ∀ r ∈ rows, (-6 ≤ r.1 ∧ r.1 ≤ 7) ∧ r.2.1 ≤ last ∧ r.2.2 ∈ ([1, 1, -1, 2, -3, 1000000] : List Int)
  col : ∀ r ∈ rows, (r.1 + (r.2.1 : Nat)) % 2 = col
  top : 0 < most → ∃ r ∈ rows, r.2.1 = last
theorem Drawn.perm {a b : List PRow} {most last : Nat} {c : Int} (h : Drawn a most last c) (p : b.Perm a) : Drawn b most last c where
  len := by rw [p.length_eq]; exact h.len
  nd := ((p.map rowKey).nodup_iff).mpr h.nd
  bd := fun r hr => h.bd r (p.mem_iff.mp hr)
  col := fun r hr => h.col r (p.mem_iff.mp hr)
  top := fun h0 => by
    obtain ⟨r, hr, e⟩ := h.top h0
    exact ⟨r, p.mem_iff.mpr hr, e⟩
theorem Drawn.more {a : List PRow} {m n last : Nat} {c : Int} (h : Drawn a m last c) (h1 : m ≤ n) (h0 : 0 < m) : Drawn a n last c where
  len := Nat.le_trans h.len h1
  nd := h.nd
  bd := h.bd
  col := h.col
  top := fun _ => h.top h0
def kyT (r : PRow) : List Key := [Sum.inl ((r.2.1 : Nat) : Int), Sum.inl r.1]
abbrev entT (rows : List PRow) : List (List Key × V) := rows.map fun r => (kyT r, V.int r.2.2)
theorem kyT_iff {a b : PRow} : kyT a = kyT b ↔ rowKey a = rowKey b := by
  unfold kyT rowKey
  simp only [List.cons.injEq, Sum.inl.injEq, and_true, Prod.mk.injEq]
  omega
def putRow (rows : List PRow) (r : PRow) : List PRow := if (rows.any fun q => decide (rowKey q = rowKey r)) = true then rows.map (fun q => if rowKey q = rowKey r then r else q) else rows ++ [r]
theorem put_ent {rows : List PRow} {r : PRow} : putK (entT rows) (kyT r) (.int r.2.2) = entT (putRow rows r) := by
  unfold putK putRow
  have e : ((entT rows).any fun kv => decide (kv.1 = kyT r)) = rows.any fun q => decide (rowKey q = rowKey r) := by
    rw [List.any_map]
    congr 1
    funext q
    exact decide_eq_decide.mpr kyT_iff
  rw [e]
  by_cases h : (rows.any fun q => decide (rowKey q = rowKey r)) = true
  · rw [if_pos h, if_pos h]
    unfold entT
    rw [List.map_map, List.map_map]
    refine List.map_congr_left fun q _ => ?_
    show (if kyT q = kyT r then (kyT q, V.int r.2.2) else (kyT q, V.int q.2.2)) = (kyT (if rowKey q = rowKey r then r else q), V.int (if rowKey q = rowKey r then r else q).2.2)
    by_cases g : rowKey q = rowKey r
    · rw [if_pos g, if_pos (kyT_iff.mpr g), kyT_iff.mpr g]
    · rw [if_neg g, if_neg (fun z => g (kyT_iff.mp z))]
  · rw [if_neg h, if_neg h]
    unfold entT
    rw [List.map_append]
    rfl
theorem mem_putRow {rows : List PRow} {r q : PRow} (h : q ∈ putRow rows r) : q = r ∨ q ∈ rows := by
  unfold putRow at h
  split at h
  · obtain ⟨p, hp, rfl⟩ := List.mem_map.mp h
    split
    · exact .inl rfl
    · exact .inr hp
  · rcases List.mem_append.mp h with h | h
    · exact .inr h
    · exact .inl (List.mem_singleton.mp h)
theorem drawn_put {rows : List PRow} {i last : Nat} {c : Int} {r : PRow} (h : Drawn rows i last c) (hb : (-6 ≤ r.1 ∧ r.1 ≤ 7) ∧ r.2.1 ≤ last ∧ r.2.2 ∈ ([1, 1, -1, 2, -3, 1000000] : List Int)) (hc : (r.1 + (r.2.1 : Nat)) % 2 = c) (h0 : i = 0 → r.2.1 = last) : Drawn (putRow rows r) (i + 1) last c where
  len := by
    unfold putRow
    have := h.len
    split
    · rw [List.length_map]; omega
    · rw [List.length_append, List.length_singleton]; omega
  nd := by
    unfold putRow
    by_cases g : (rows.any fun q => decide (rowKey q = rowKey r)) = true
    · rw [if_pos g, List.map_map]
      have e : rows.map (rowKey ∘ fun q => if rowKey q = rowKey r then r else q) = rows.map rowKey := by
        refine List.map_congr_left fun q _ => ?_
        show rowKey (if rowKey q = rowKey r then r else q) = rowKey q
        split
        · next z => exact z.symm
        · rfl
      rw [e]
      exact h.nd
    · rw [if_neg g, List.map_append, List.nodup_append]
      refine ⟨h.nd, by simp, fun x hx y hy e => g ?_⟩
      obtain ⟨q, hq, rfl⟩ := List.mem_map.mp hx
      simp only [List.map_cons, List.map_nil, List.mem_singleton] at hy
      exact List.any_eq_true.mpr ⟨q, hq, decide_eq_true (e.trans hy)⟩
  bd := fun q hq => by
    rcases mem_putRow hq with rfl | hq
    · exact hb
    · exact h.bd q hq
  col := fun q hq => by
    rcases mem_putRow hq with rfl | hq
    · exact hc
    · exact h.col q hq
  top := fun _ => by
    by_cases hi : i = 0
    · have hl := h.len
      have : rows = [] := List.eq_nil_of_length_eq_zero (by omega)
      subst this
      exact ⟨r, by simp [putRow], h0 hi⟩
    · obtain ⟨q, hq, e⟩ := h.top (by omega)
      unfold putRow
      split
      · refine ⟨if rowKey q = rowKey r then r else q, List.mem_map.mpr ⟨q, hq, rfl⟩, ?_⟩
        split
        · next z => rw [← e]; exact (congrArg (·.2) z).symm
        · exact e
      · exact ⟨q, List.mem_append_left _ hq, e⟩
theorem Brz.mono {K : PySem.W.Frag} {H : Hp} {B : Addr} {m n : Nat} (h : Brz K H B m) (l : m ≤ n) : Brz K H B n := by
  obtain ⟨C, cs, a, r, h1, h2, h3, h4, h5⟩ := h
  exact ⟨C, cs, a, r, h1, h2, h3, Nat.le_trans h4 l, h5⟩
theorem SameX.put {B p : Addr} {H H' : Hp} {o : HO} (s : SameX B H H') (h : H p = Option.none) : SameX B H (L2.upd H' p o) := fun b u n e => by
  rw [upd_ne (ne_of_none e h)]
  exact s b u n e
theorem Brz.put {K : PySem.W.Frag} {H : Hp} {B p : Addr} {n : Nat} {o : HO} {kvs : List (List Key × V)} (h : Brz K H B n) (hp : H p = some (.dT kvs)) : Brz K (upd H p o) B n := by
  obtain ⟨C, cs, a, r, h1, h2, h3⟩ := h
  refine ⟨C, cs, a, r, ?_, ?_, h3⟩
  · rw [upd_ne (fun e => by rw [e, hp] at h1; cases h1)]; exact h1
  · rw [upd_ne (fun e => by rw [e, hp] at h2; cases h2)]; exact h2
theorem Brz.at_ {K : PySem.W.Frag} {H : Hp} {B p : Addr} {n : Nat} (h : Brz K H B n) (hp : H p = none) : p ≠ B := fun e => by
  obtain ⟨C, cs, a, r, h1, _⟩ := h
  rw [← e, hp] at h1
  cases h1
theorem Brz.back {K : PySem.W.Frag} {H H' : Hp} {B p : Addr} {n : Nat} (s : SameX B H H') (h : Brz K H' B n) (hp : H' p = none) : H p = none := by
  cases e : H p with
  | none => rfl
  | some o => exact absurd (s _ _ (h.at_ hp) e) (by rw [hp]; simp)
theorem val_ent : ∀ {rows : List PRow} {r : PRow}, (rows.map rowKey).Nodup → r ∈ rows → valV (entT rows) (kyT r) = some (V.int r.2.2)
  | q :: rows, r, nd, h => by
    rw [List.map_cons, List.nodup_cons] at nd
    unfold valV entT
    rw [List.map_cons]
    rcases List.mem_cons.mp h with e | h
    · rw [List.find?_cons_of_pos (by rw [e]; simp), e]
      rfl
    · have ne : ¬ kyT q = kyT r := fun e => nd.1 (List.mem_map.mpr ⟨r, h, (kyT_iff.mp e).symm⟩)
      rw [List.find?_cons_of_neg (by simpa using ne)]
      exact val_ent nd.2 h
theorem paired_map {α β γ : Type} {F : β → γ → Prop} {f : α → β} : ∀ {l : List α} {m : List γ}, Paired F (l.map f) m → Paired (fun a c => F (f a) c) l m
  | [], _, h => by cases h; exact .nil
  | a :: l, _, h => by
    cases h with
    | cons h t => exact .cons h (paired_map t)
theorem paired_ref {α : Type} {F : α → V → Prop} : ∀ {l : List α} {as : List Addr}, Paired (fun d a => F d (.ref a)) l as → Paired F l (as.map V.ref)
  | _, _, .nil => .nil
  | _, _, .cons h t => .cons h (paired_ref t)
section
variable {P : Program} {w : World} {K : PySem.W.Frag} {mg : Str → Option Value} {base : Heap}
theorem tick_pick {H : Hp} {B : Addr} {n last : Nat} {i : Nat} {σ : L2.St} {Q : VK} (hb : Brz K H B n) (hn : n ≤ 1000) (hl : last ≤ 6) (e0 : σ[0]? = some (some (.ref B))) (e2 : σ[2]? = some (some (.int last))) (e5 : σ[5]? = some (some (.int (i : Nat))))
    (k : ∀ (t : Nat) H', SameX B H H' → Brz K H' B (n + 1) → t ≤ last → (i = 0 → t = last) → Q (.int t) H') :
    tIf (tTest (tOp rEq (tVar 5) (tC (.int 0)))) (tVar 2) (tCall (sp_puff K) [] E0 (tCons (tVar 0) (tCons (tOp (rI0 fun i j => V.int (i + j)) (tVar 2) (tC (.int 1))) tNil))) σ H Q := by
  refine ⟨_, e5, rfl, _, rfl, ?_⟩
  by_cases hi : i = 0
  · subst hi
    refine dT rfl ⟨_, e2, k _ _ SameX.refl (hb.mono (by omega)) (Nat.le_refl _) fun _ => rfl⟩
  · refine dFa (fun e => hi (by have := V.int.inj e; omega)) ⟨_, e0, _, e2, _, _, rfl, rfl, B, n, last + 1, rfl, hb, hn, by omega, by omega, fun r H' sx hb' hr => ?_⟩
    exact k r H' sx hb' (by omega) fun z => absurd z hi
abbrev N_law_rows : List Str := ["_law_breeze_here", "_law_most", "_law_last", "_law_colour", "_law_found", "_law_turn", "_law_tick", "_law_spot"]
theorem sc_law_rows : FnScope N_law_rows ["_law_breeze_here", "_law_most", "_law_last"] (defScope s_law_rows) := ⟨rfl, rfl, rfl, by decide +kernel, rfl, by decide +kernel, by decide +kernel⟩
def sp_rows (K : PySem.W.Frag) : Sp := fun vs H Q _ => ∃ (B : Addr) (n most last : Nat), vs = [.ref B, .int most, .int last] ∧ Brz K H B n ∧ n ≤ 900 ∧ 1 ≤ most ∧ most ≤ 3 ∧ last ≤ 6 ∧
  ∀ D H' rows ys col, SameX B H H' → Brz K H' B (n + 20) → H D = none → H' D = some (.lst ys) → Paired (fun d y => isR K d y H') rows ys → Drawn rows most last col → (col = 0 ∨ col = 1) → Q (.ref D) H'
theorem O_law_rows (T : Tx K mg) : Ok P w K mg base 3 (He.ga K "_law_rows") ["_law_breeze_here", "_law_most", "_law_last"] (sp_rows K) := by
  have O_law_puff := O_law_puff (P := P) (w := w) (base := base) T
  have O_law_one := O_law_one (P := P) (w := w) (base := base) T
  refine Ok.mk T.f_law_rows sc_law_rows (fun vs H Q E h => ?_) (fun _ _ _ _ _ _ us hl => match us, hl with | [_, _, _], _ => rfl) (fun cdv A outer s H vs Q E hr h => ?_)
  · obtain ⟨B, n, most, last, rfl, _⟩ := h; rfl
  · obtain ⟨B, n, most, last, rfl, hb, hn, hm1, hm3, hl6, k⟩ := h
    have hu := Nat.lt_of_le_of_lt (Nat.add_le_add_left (by decide : 1 ≤ 64) _) hr.units
    refine ⟨_, (pss_cons (ps_asg (pe_tup (pa_cons (pe_fn O_law_puff (hr.mono (by decide)) T.g__law_puff (pa_cons (pv 0) (pa_cons pe_int pa_nil))) (pa_cons pe_dnewT pa_nil))) (pg_tup rfl (pgs_cons (pg_name (i := 3) sc_law_rows.nd rfl (.inl rfl) (by first | exact .inl rfl | exact .inr rfl)) (pgs_cons (pg_name (i := 4) sc_law_rows.nd rfl (.inr rfl) (by first | exact .inl rfl | exact .inr rfl)) pgs_nil))))
      (pss_cons (ps_for PassesOwn.never rfl (pi_range1 (by rfl) T.z_range (pa_cons (pe_op op_add pe_int (pe_fn O_law_puff (hr.mono (by decide)) T.g__law_puff (pa_cons (pv 0) (pa_cons (pv 1) pa_nil)))) pa_nil)) (pg_name (i := 5) sc_law_rows.nd rfl (.inl rfl) (by first | exact .inl rfl | exact .inr rfl))
      (pss_cons (ps_set (i := 6) sc_law_rows.nd rfl (.inl rfl) (pe_ifExp (pt_cmpR op_eq (pv 5) pe_int (nomark _)) (pv 2) (pe_fn O_law_puff (hr.mono (by decide)) T.g__law_puff (pa_cons (pv 0) (pa_cons (pe_op op_add (pv 2) pe_int) pa_nil)))))
      (pss_cons (ps_set (i := 7) sc_law_rows.nd rfl (.inl rfl) (pe_op op_add (pe_op op_mul pe_int (pe_op op_sub (pe_fn O_law_puff (hr.mono (by decide)) T.g__law_puff (pa_cons (pv 0) (pa_cons pe_int pa_nil))) pe_int)) (pe_op op_mod (pe_callTy call_int1 (by rfl) T.z_int (by decide +kernel) (pa_cons (pe_op op_add (pv 3) (pv 6)) pa_nil)) pe_int)))
      (pss_one (ps_dput hu (pv 4) (pe_tup (pa_cons (pv 6) (pa_cons (pv 7) pa_nil))) (pe_fn O_law_one (hr.mono (by decide)) T.g__law_one (pa_cons (pv 0) (pa_cons (pe_lst (pa_cons pe_int (pa_cons pe_int (pa_cons (pe_un un_neg pe_int) (pa_cons pe_int (pa_cons (pe_un un_neg pe_int) (pa_cons pe_int pa_nil))))))) pa_nil))) rfl)))))
      (pss_one (ps_ret (pe_lc (own := [("_law_tick", 6), ("_law_spot", 7)]) rfl sc_law_rows.nd (pi_list (pe_callB (cr_sortedDT rfl) (by rfl) T.z_sorted (by decide +kernel) (pa_cons (pv 4) pa_nil))) (blkOk_by (N := N_law_rows) (sc := defScope s_law_rows) (by decide +kernel)) (fun _ _ _ _ _ => (pg_tupK (K := K) (n := 2) rfl rfl (pgs_cons (pg_name (i := 6) sc_law_rows.nd rfl (.inl rfl) (by first | exact .inl rfl | exact .inr rfl)) (pgs_cons (pg_name (i := 7) sc_law_rows.nd rfl (.inl rfl) (by first | exact .inl rfl | exact .inr rfl)) pgs_nil)))) (fun _ _ _ _ _ => pts_nil) (fun _ _ _ _ _ => (pe_tup (pa_cons (pv 7) (pa_cons (pv 6) (pa_cons (pe_dget hu (pv 4) (pe_tup (pa_cons (pv 6) (pa_cons (pv 7) pa_nil))) (fun _ _ => rfl)) pa_nil)))))))))), ?_⟩
    refine ⟨_, rfl, B, n, 2, rfl, hb, by omega, by decide, by decide, fun c H1 sx1 hb1 hc => ?_⟩
    intro F hF
    refine ⟨(by show 2 ≤ sizeLine; decide), fun p hp => ?_⟩
    have s12 : Same H1 (upd (upd H1 F (.dT [])) p (.tup [.int c, .ref F])) := (same_new (o := .dT []) hF).trans (same_new hp)
    have hF2 : (upd (upd H1 F (.dT [])) p (.tup [.int c, .ref F])) F = some (.dT []) := (same_new (o := .tup [.int c, .ref F]) hp) _ _ upd_same
    have hp2 : (upd (upd H1 F (.dT [])) p (.tup [.int c, .ref F])) p = some (.tup [.int c, .ref F]) := upd_same
    have hFB : F ≠ B := hb1.at_ hF
    have hF0 : H F = none := hb1.back sx1 hF
    generalize upd (upd H1 F (.dT [])) p (.tup [.int c, .ref F]) = H2 at s12 hF2 hp2
    refine ⟨p, _, rfl, SqT.of hp2, rfl, _, _, rfl, _, _, rfl, rfl, ?_⟩
    have hb2 := hb1.same s12
    have sx2 : SameX B H H2 := sx1.trans (SameX.of s12)
    refine ⟨_, rfl, _, rfl, B, n + 1, most, rfl, hb2, by omega, by omega, by omega, fun m H3 sx3 hb3 hm => ⟨_, _, rfl, rfl, _, rfl, by omega, by omega, ?_⟩⟩
    have hF3 := sx3 _ _ hFB hF2
    have sxh3 := sx2.trans sx3
    clear s12 hF2 hp2 hb2 sx2 sx3 hb1 sx1 hF hp
    refine for_src (Src.range (lo := 0) (n := ((1 : Int) + (m : Nat)).toNat)) (fun i σ H' => ∃ o5 o6 o7 rows, σ = [some (.ref B), some (.int most), some (.int last), some (.int c), some (.ref F), o5, o6, o7] ∧ SameX B H H' ∧ Brz K H' B (n + 2 + 3 * i) ∧ H' F = some (.dT (entT rows)) ∧ Drawn rows i last c) ?_ ?_ ?_ ?_
    · exact ⟨_, _, _, [], rfl, sxh3, hb3.mono (by omega), hF3, ⟨by simp, by simp, fun r hr => by simp at hr, fun r hr => by simp at hr, fun h => by omega⟩⟩
    · intro i σ H' _ _
      exact trivial
    · rintro i d x σ H4 H5 hi ⟨o5, o6, o7, rows, rfl, sx4, hb4, hF4, dr⟩ s5 hx
      obtain ⟨hi1, rfl⟩ := range_get hi
      rw [Int.zero_add] at hx
      subst hx
      have hdm : d < most := by omega
      have hb5 := hb4.same s5
      have hF5 := s5 _ _ hF4
      have sx5 := sx4.trans (SameX.of s5)
      refine tick_pick (i := d) hb5 (by omega) hl6 rfl rfl rfl fun t H6 sx6 hb6 ht ht0 => ?_
      refine ⟨_, rfl, B, n + 2 + 3 * d + 1, 7, rfl, hb6, by omega, by decide, by decide, fun u H7 sx7 hb7 hu7 => ⟨_, _, rfl, rfl, _, _, rfl, rfl, .inl (by decide), _, rfl, _, rfl, _, _, rfl, rfl, .inl ⟨_, rfl, _, _, rfl, rfl, (show (0 : Int) < 2 by decide), _, _, rfl, rfl, ?_⟩⟩⟩
      refine ⟨_, rfl, _, rfl, _, rfl, (by show 6 ≤ sizeLine; decide), fun S hS => ?_⟩
      have s8 : Same H7 (upd H7 S (.lst [.int 1, .int 1, .int (-1), .int 2, .int (-3), .int 1000000])) := same_new hS
      refine ⟨B, S, n + 2 + 3 * d + 2, [1, 1, -1, 2, -3, 1000000], rfl, hb7.same s8, by omega, upd_same, by simp, by decide, fun wt H9 sx9 hb9 hw => ?_⟩
      have sx69 : SameX B H5 H9 := ((sx6.trans sx7).trans (SameX.of s8)).trans sx9
      have hF9 := sx69 _ _ hFB hF5
      refine ⟨_, rfl, _, rfl, _, rfl, (by show 2 ≤ sizeLine; decide), fun y hy => ?_⟩
      have s10 : Same H9 (upd H9 y (.tup [.int t, .int (2 * ((u : Int) - 3) + ((c : Int) + t) % 2)])) := same_new hy
      have hF10 := s10 _ _ hF9
      have small : (entT rows).length < sizeLine := by
        rw [List.length_map]
        exact Nat.lt_of_le_of_lt (Nat.le_trans dr.len (by omega : d ≤ 3)) (by decide)
      have hput := DPut.t (k := kyT (2 * ((u : Int) - 3) + ((c : Int) + t) % 2, t, wt)) (v := V.int wt) hF10 (upd_same (H := H9) (a := y) (o := .tup [.int t, .int (2 * ((u : Int) - 3) + ((c : Int) + t) % 2)])) small
      refine ⟨F, _, rfl, hput, ?_⟩
      refine ⟨_, _, _, putRow rows (2 * ((u : Int) - 3) + ((c : Int) + t) % 2, t, wt), rfl, ((sx5.trans sx69).trans (SameX.of s10)).put hF0, ((hb9.same s10).put hF10).mono (by omega), ?_, drawn_put dr ⟨⟨by show _ ≤ 2 * ((u : Int) - 3) + ((c : Int) + t) % 2; omega, by show 2 * ((u : Int) - 3) + ((c : Int) + t) % 2 ≤ _; omega⟩, ht, hw⟩ (by show (2 * ((u : Int) - 3) + ((c : Int) + t) % 2 + (t : Int)) % 2 = c; omega) ht0⟩
      rw [upd_same, ← put_ent]
    · rintro σ H4 ⟨o5, o6, o7, rows, rfl, sx4, hb4, hF4, dr⟩
      rw [List.length_range] at hb4 dr
      have hkeys : (entT rows).map (·.1) = (rows.map fun r : PRow => (((r.2.1 : Nat) : Int), r.1)).map pKey := by
        rw [List.map_map, List.map_map]
        rfl
      refine ⟨_, rfl, F, _, _, rfl, hF4, hkeys, fun l as L' hl pm pd => ?_⟩
      obtain ⟨rows2, pm2, e2⟩ := perm_lift (fun r : PRow => (((r.2.1 : Nat) : Int), r.1)) pm rows rfl
      subst e2
      have dr2 := dr.perm pm2
      have s5 : Same H4 (upd H4 l (.lst (as.map V.ref))) := same_new hl
      have pr : Paired (fun (r : PRow) y => isB K (((r.2.1 : Nat) : Int), r.1) y (upd H4 l (.lst (as.map V.ref)))) rows2 (as.map V.ref) := paired_ref (L2.Paired.mapP (paired_map pd) fun r a e => ⟨a, rfl, s5 _ _ e⟩)
      have hl5 : SqL K (upd H4 l (.lst (as.map V.ref))) l (as.map V.ref) := SqL.of upd_same
      have hF5 := s5 _ _ hF4
      have hb5 := hb4.same s5
      have sx5 := sx4.trans (SameX.of s5)
      generalize upd H4 l (.lst (as.map V.ref)) = H5 at s5 pr hl5 hF5 hb5 sx5 ⊢
      have hlen := dr2.len
      refine ⟨l, rfl, ⟨_, hl5⟩, fun D hD => lc_src (Src.pl (K := K) (a := l) (ys := as.map V.ref) (ds := rows2) (R := fun (r : PRow) y H => isB K (((r.2.1 : Nat) : Int), r.1) y H)) (K := K) hD (isR K) (fun _ => true) (fun H' s => ⟨s.seq hl5, L2.Paired.mapP pr fun r y ⟨a, e, h⟩ => ⟨a, e, s _ _ h⟩⟩) isR_stay (by omega) (fun i r x H6 Q1 Q0 s6 hi hx k1 _ => ?_) (fun H6 ys s6 hD6 hp6 => ?_)⟩
      · obtain ⟨q, rfl, hq⟩ := hx
        refine ⟨q, _, rfl, SqT.of hq, rfl, _, _, rfl, _, _, rfl, rfl, rfl, yes_ ⟨_, rfl, _, rfl, _, rfl, _, rfl, _, rfl, (by show 2 ≤ sizeLine; decide), fun y hy => ?_⟩⟩
        have s7 : Same H6 (upd H6 y (.tup [.int (r.2.1 : Nat), .int r.1])) := same_new hy
        have hF7 := s7 _ _ (s6 _ _ hF5)
        have hv : valV (entT rows) (kyT r) = some (V.int r.2.2) := val_ent dr.nd (pm2.mem_iff.mp (List.mem_of_getElem? hi))
        have g := DGet.t (k := kyT r) hF7 (upd_same (H := H6) (a := y) (o := .tup [.int (r.2.1 : Nat), .int r.1]))
        rw [hv] at g
        exact ⟨F, _, rfl, g, (by show 3 ≤ sizeLine; decide), fun z hz => k1 rfl _ _ (s7.trans (same_new hz)) ⟨z, rfl, upd_same⟩⟩
      · rw [List.filter_eq_self.mpr (by simp)] at hp6
        have hD0 : H D = none := hb5.back sx5 hD
        exact k D H6 rows2 ys c (sx5.trans (SameX.of s6)) ((hb5.same s6).mono (by omega)) hD0 hD6 hp6 (dr2.more (by omega) (by omega)) (by omega)
end
end Nw
namespace Nw
open PySem PySem.Spec PyProof.Rows L2 Nd
/-- the rows of paths to so many steps -/
def PathsAt (H : Hp) (L : Addr) (n : Nat) : Prop := ∃ ds : List Addr, H L = some (.lst (ds.map V.ref)) ∧ ds.length = n + 1 ∧ ∀ k d, ds[k]? = some d → H d = some (.lst ((shares k).map V.int))
theorem PathsAt.same {H H' : Hp} {L : Addr} {n : Nat} (h : PathsAt H L n) (s : Same H H') : PathsAt H' L n := by
  obtain ⟨ds, h1, h2, h3⟩ := h
  exact ⟨ds, s _ _ h1, h2, fun k d e => s _ _ (h3 k d e)⟩
theorem paired_sum {S : List Int} : ∀ {l : List Nat} {ys : List V}, Paired (fun (i : Nat) y => ∃ a b, S[i]? = some a ∧ S[i + 1]? = some b ∧ y = V.int (a + b)) l ys → ∃ zs : List Int, ys = zs.map V.int ∧ zs.length = l.length ∧ ∀ (j i : Nat), l[j]? = some i → ∃ a b, S[i]? = some a ∧ S[i + 1]? = some b ∧ zs[j]? = some (a + b)
  | _, _, .nil => ⟨[], rfl, rfl, fun j i h => by simp at h⟩
  | _, _, .cons h t => by
    obtain ⟨zs, e1, e2, e3⟩ := paired_sum t
    obtain ⟨a, b, h1, h2, rfl⟩ := h
    refine ⟨(a + b) :: zs, by rw [e1]; rfl, by rw [List.length_cons, List.length_cons, e2], fun j i hj => ?_⟩
    match j, hj with
    | 0, hj =>
      cases Option.some.inj hj
      exact ⟨a, b, h1, h2, rfl⟩
    | j + 1, hj => exact e3 j i (by simpa using hj)
section
variable {P : Program} {w : World} {K : PySem.W.Frag} {mg : Str → Option Value} {base : Heap}
abbrev N_law_paths : List Str := ["_law_steps", "_law_found", "_law_step", "_law_row", "_law_at"]
theorem sc_law_paths : FnScope N_law_paths ["_law_steps"] (defScope s_law_paths) := ⟨rfl, rfl, rfl, by decide +kernel, rfl, by decide +kernel, by decide +kernel⟩
def sp_paths (K : PySem.W.Frag) : Sp := fun vs H Q _ => ∃ n : Nat, vs = [.int n] ∧ n ≤ 6 ∧ ∀ L H', Same H H' → PathsAt H' L n → Q (.ref L) H'
theorem O_law_paths (T : Tx K mg) : Ok P w K mg base 1 (He.ga K "_law_paths") ["_law_steps"] (sp_paths K) := by
  refine Ok.mk T.f_law_paths sc_law_paths (fun vs H Q E h => ?_) (fun _ _ _ _ _ _ us hl => match us, hl with | [_], _ => rfl) (fun cdv A outer s H vs Q E hr h => ?_)
  · obtain ⟨n, rfl, _⟩ := h; rfl
  · obtain ⟨n, rfl, hn, k⟩ := h
    refine ⟨_, (pss_cons (ps_set (i := 1) sc_law_paths.nd rfl (.inl rfl) (pe_lst (pa_cons (pe_lst (pa_cons pe_int pa_nil)) pa_nil)))
      (pss_cons (ps_for PassesOwn.never rfl (pi_range1 (by rfl) T.z_range (pa_cons (pv 0) pa_nil)) (pg_name (i := 2) sc_law_paths.nd rfl (.inl rfl) (by first | exact .inl rfl | exact .inr rfl))
      (pss_cons (ps_set (i := 3) sc_law_paths.nd rfl (.inr rfl) (pe_ix ix_list (pv 1) (pe_un un_neg pe_int) (fun _ _ => rfl)))
      (pss_one (ps_expr (pe_bm PySem.F.plainAttrs_list PySem.F.slot_list_append PySem.F.type_list_append mt_append (pv 1) (pa_cons (pe_op op_cat (pe_op op_cat (pe_lst (pa_cons pe_int pa_nil)) (pe_lc (own := [("_law_at", 4)]) rfl sc_law_paths.nd (pi_range1 (by rfl) T.z_range (pa_cons (pv 2) pa_nil)) (blkOk_by (N := N_law_paths) (sc := defScope s_law_paths) (by decide +kernel)) (fun _ _ _ _ _ => (pg_name (i := 4) sc_law_paths.nd rfl (.inl rfl) (by first | exact .inl rfl | exact .inr rfl))) (fun _ _ _ _ _ => pts_nil) (fun _ _ _ _ _ => (pe_op op_add (pe_ix (ix_listK (K := K) rfl) (pv 3) (pv 4) (fun _ _ => rfl)) (pe_ix (ix_listK (K := K) rfl) (pv 3) (pe_op op_add (pv 4) pe_int) (fun _ _ => rfl)))))) (pe_lst (pa_cons pe_int pa_nil))) pa_nil))))))
      (pss_one (ps_ret (pv 1))))), ?_⟩
    refine ⟨(by show 1 ≤ sizeLine; decide), fun D0 hD0 => ⟨(by show 1 ≤ sizeLine; decide), fun L hL => ?_⟩⟩
    have s0 : Same H (upd (upd H D0 (.lst [.int 1])) L (.lst [.ref D0])) := (same_new (o := .lst [.int 1]) hD0).trans (same_new hL)
    have hLD : D0 ≠ L := ne_of_none (upd_same (H := H) (a := D0) (o := .lst [.int 1])) hL
    have hL0 : H L = none := none_back (same_new (o := .lst [.int 1]) hD0) hL
    refine ⟨_, rfl, _, rfl, by omega, by omega, ?_⟩
    refine for_src (Src.range (lo := 0) (n := ((n : Nat) : Int).toNat)) (fun i σ H' => ∃ o2 o3 o4, σ = [some (.int n), some (.ref L), o2, o3, o4] ∧ Same H H' ∧ PathsAt H' L i) ?_ ?_ ?_ ?_
    · refine ⟨_, _, _, rfl, s0, [D0], upd_same, rfl, fun k d e => ?_⟩
      match k, e with
      | 0, e =>
        cases e
        rw [upd_ne hLD, upd_same]
        rfl
      | k + 1, e => simp at e
    · intro i σ H' _ _
      exact trivial
    · rintro i d x σ H1 H2 hi ⟨o2, o3, o4, rfl, s1, ds, g1, g2, g3⟩ s2 rfl
      obtain ⟨hi1, rfl⟩ := range_get hi
      have g1' := s2 _ _ g1
      have hdn : d < n := by omega
      obtain ⟨dp, dl, ed⟩ : ∃ dp dl, ds = dp ++ [dl] := by
        have hne : ds ≠ [] := fun e => by rw [e] at g2; simp at g2
        exact ⟨ds.dropLast, ds.getLast hne, (List.dropLast_concat_getLast hne).symm⟩
      have hdl : ds[d]? = some dl := by
        rw [ed] at g2 ⊢
        rw [List.length_append, List.length_singleton] at g2
        have : dp.length = d := by omega
        rw [← this]
        simp
      have atl : atI (ds.map V.ref) (-1) = some (.ref dl) := by rw [ed, List.map_append]; exact atI_last _ _
      have hb := s2 _ _ (g3 _ _ hdl)
      refine ⟨_, rfl, _, rfl, _, _, _, _, rfl, rfl, SqL.of g1', atl, ?_⟩
      refine ⟨_, rfl, ty_list g1', (by show 1 ≤ sizeLine; decide), fun A1 hA1 => ?_⟩
      have s3 : Same H2 (upd H2 A1 (.lst [.int 1])) := same_new hA1
      have hA : (upd H2 A1 (.lst [.int 1])) A1 = some (.lst [.int 1]) := upd_same
      generalize upd H2 A1 (.lst [.int 1]) = H3 at s3 hA
      have hb3 := s3 _ _ hb
      refine ⟨_, rfl, _, rfl, by omega, by omega, fun D hD => lc_src (Src.range (lo := 0) (n := ((0 : Int) + (d : Nat)).toNat)) (K := K) hD (fun (i : Nat) y _ => ∃ a b, (shares d)[i]? = some a ∧ (shares d)[i + 1]? = some b ∧ y = V.int (a + b)) (fun _ => true) (fun _ _ => trivial) (fun _ _ _ _ _ h => h) (by rw [List.length_range]; omega) (fun i j x H4 Q1 Q0 s4 hj hx k1 _ => ?_) (fun H4 ys s4 hD4 hp4 => ?_)⟩
      · obtain ⟨hj1, rfl⟩ := range_get hj
        rw [Int.zero_add] at hx
        subst hx
        have hjd : j < d := by omega
        have hb4 : SqL K H4 dl ((shares d).map V.int) := SqL.of (s4 _ _ hb3)
        have a1 := shares_at (T := d) (j := j) (by omega)
        have a2 := shares_at (T := d) (j := j + 1) (by omega)
        refine ⟨rfl, yes_ ⟨_, rfl, _, rfl, dl, _, _, _, rfl, rfl, hb4, atI_nat (by rw [List.getElem?_map, a1]; rfl), _, rfl, _, rfl, _, _, rfl, rfl, dl, _, ((j + 1 : Nat) : Int), _, rfl, rfl, hb4, atI_nat (by rw [List.getElem?_map, a2]; rfl), _, _, rfl, rfl, k1 rfl _ _ (Same.refl _) ⟨_, _, a1, a2, rfl⟩⟩⟩
      · rw [List.filter_eq_self.mpr (by simp)] at hp4
        obtain ⟨zs, e1, e2, e3⟩ := paired_sum hp4
        subst e1
        rw [List.length_range] at e2
        have hzl : zs.length = d := by omega
        have er : [1] ++ zs ++ [1] = shares (d + 1) := shares_row hzl fun j hj => e3 j j (by rw [List.getElem?_range (by omega)])
        refine ⟨A1, D, [.int 1], zs.map V.int, rfl, rfl, s4 _ _ hA, hD4, ?_, fun p1 hp1 => ?_⟩
        · rw [List.length_map, hzl]; exact Nat.le_trans (by show 1 + d ≤ 100; omega) (by decide)
        have s5 : Same H4 (upd H4 p1 (.lst ([.int 1] ++ zs.map V.int))) := same_new hp1
        have h5 : (upd H4 p1 (.lst ([.int 1] ++ zs.map V.int))) p1 = some (.lst ([.int 1] ++ zs.map V.int)) := upd_same
        generalize upd H4 p1 (.lst ([.int 1] ++ zs.map V.int)) = H5 at s5 h5 ⊢
        refine ⟨(by show 1 ≤ sizeLine; decide), fun C1 hC1 => ?_⟩
        have s6 : Same H5 (upd H5 C1 (.lst [.int 1])) := same_new hC1
        refine ⟨p1, C1, _, _, rfl, rfl, s6 _ _ h5, upd_same, ?_, fun p2 hp2 => ?_⟩
        · rw [List.length_append, List.length_map, hzl]; exact Nat.le_trans (by show 1 + d + 1 ≤ 100; omega) (by decide)
        have e4 : ([V.int 1] ++ zs.map V.int) ++ [V.int 1] = (shares (d + 1)).map V.int := by rw [← er]; simp
        rw [e4]
        have s7 : Same H2 (upd (upd H5 C1 (.lst [.int 1])) p2 (.lst ((shares (d + 1)).map V.int))) := ((((s3.trans s4).trans s5).trans s6)).trans (same_new hp2)
        have h7 : (upd (upd H5 C1 (.lst [.int 1])) p2 (.lst ((shares (d + 1)).map V.int))) p2 = some (.lst ((shares (d + 1)).map V.int)) := upd_same
        have n7 : H p2 = none := none_back ((((((s1.trans s2).trans s3).trans s4).trans s5).trans s6)) hp2
        generalize upd (upd H5 C1 (.lst [.int 1])) p2 (.lst ((shares (d + 1)).map V.int)) = H7 at s7 h7 ⊢
        have q1 := s7 _ _ g1'
        refine ⟨L, _, _, rfl, rfl, q1, ?_, _, _, _, rfl, same_put ((s1.trans s2).trans s7) hL0, ds ++ [p2], ?_, ?_, fun k e hk => ?_⟩
        · rw [List.length_map, g2]
          exact Nat.lt_of_le_of_lt (by omega : _ ≤ 1000) (by decide)
        · rw [upd_same, List.map_append]
          rfl
        · rw [List.length_append, g2]; rfl
        · have hk' : (k < ds.length ∧ ds[k]? = some e) ∨ (k = d + 1 ∧ e = p2) := by
            by_cases hk2 : k < ds.length
            · rw [List.getElem?_append_left hk2] at hk
              exact .inl ⟨hk2, hk⟩
            · right
              rw [List.getElem?_append_right (by omega)] at hk
              have h0 := (List.getElem?_eq_some_iff.mp hk).1
              rw [List.length_singleton] at h0
              have : k - ds.length = 0 := by omega
              rw [this] at hk
              exact ⟨by omega, (Option.some.inj hk).symm⟩
          have ne : ∀ {e : Addr} {ns : List Int}, H7 e = some (.lst (ns.map V.int)) → e ≠ L := fun {e ns} h z => by
            rw [z, q1] at h
            cases ds with
            | nil => simp at g2
            | cons a as =>
              cases ns with
              | nil => simp at h
              | cons b bs => simp at h
          rcases hk' with ⟨_, h⟩ | ⟨rfl, rfl⟩
          · have := s7 _ _ (s2 _ _ (g3 _ _ h))
            rw [upd_ne (ne this)]
            exact this
          · rw [upd_ne (ne h7)]
            exact h7
    · rintro σ H' ⟨o2, o3, o4, rfl, s1, pa⟩
      rw [List.length_range, Int.toNat_natCast] at pa
      exact ⟨_, rfl, k L H' s1 pa⟩
abbrev N_law_share : List Str := ["_law_paths_here", "_law_steps", "_law_far"]
theorem sc_law_share : FnScope N_law_share ["_law_paths_here", "_law_steps", "_law_far"] (defScope s_law_share) := ⟨rfl, rfl, rfl, by decide +kernel, rfl, by decide +kernel, by decide +kernel⟩
def sp_share (K : PySem.W.Frag) : Sp := fun vs H Q _ => ∃ (L : Addr) (m n : Nat) (d : Int), vs = [.ref L, .int n, .int d] ∧ PathsAt H L m ∧ n ≤ m ∧ Q (.int (Nd.P n d)) H
theorem O_law_share (T : Tx K mg) : Ok P w K mg base 1 (He.ga K "_law_share") ["_law_paths_here", "_law_steps", "_law_far"] (sp_share K) := by
  refine Ok.mk T.f_law_share sc_law_share (fun vs H Q E h => ?_) (fun _ _ _ _ _ _ us hl => match us, hl with | [_, _, _], _ => rfl) (fun cdv A outer s H vs Q E hr h => ?_)
  · obtain ⟨L, m, n, d, rfl, _⟩ := h; rfl
  · obtain ⟨L, m, n, d, rfl, ⟨ds, g1, g2, g3⟩, hn, k⟩ := h
    refine ⟨_, (pss_cons (ps_if (PW.pt (pw_or (pt_cmpR op_gt (pe_callB call_abs (by rfl) T.z_abs (by decide +kernel) (pa_cons (pv 2) pa_nil)) (pv 1) (nomark _)) (pw_or1 (pt_cmpR op_ne (pe_op op_mod (pe_callTy call_int1 (by rfl) T.z_int (by decide +kernel) (pa_cons (pe_op op_add (pv 1) (pv 2)) pa_nil)) pe_int) pe_int (nomark _)))))
      (pss_one (ps_ret pe_int))
      pss_nil)
      (pss_one (ps_ret (pe_ix ix_list (pe_ix ix_list (pv 0) (pv 1) (fun _ _ => rfl)) (pe_op op_fdiv (pe_op op_add (pv 1) (pv 2)) pe_int) (fun _ _ => rfl))))), ?_⟩
    refine ⟨_, rfl, d, rfl, _, rfl, _, _, rfl, rfl, _, rfl, ?_⟩
    by_cases h1 : (n : Int) < (if d < 0 then -d else d)
    · refine dT h1 (iteT ?_)
      rw [show (0 : Int) = Nd.P n d from (P_far (by split at h1 <;> omega)).symm]
      exact k
    refine dFa h1 ?_
    refine ⟨_, rfl, _, rfl, _, _, rfl, rfl, .inl ⟨_, rfl, _, _, rfl, rfl, (show (0 : Int) < 2 by decide), rfl, _, rfl, ?_⟩⟩
    by_cases h2 : ((n : Int) + d) % 2 = 0
    · rw [decide_eq_true (congrArg V.int h2)]
      refine iteF ?_
      have hk : (((((n : Int) + d) / 2).toNat : Nat) : Int) = ((n : Int) + d) / 2 := Int.toNat_of_nonneg (by split at h1 <;> omega)
      have hle : (((n : Int) + d) / 2).toNat ≤ n := by split at h1 <;> omega
      have hgl : n < ds.length := by omega
      have hd := List.getElem?_eq_getElem hgl
      have sh := shares_at hle
      rw [show 2 * (((((n : Int) + d) / 2).toNat : Nat) : Int) - (n : Int) = d by omega] at sh
      refine ⟨_, rfl, _, rfl, L, _, _, _, rfl, rfl, SqL.of g1, atI_nat (by rw [List.getElem?_map, hd]; rfl), _, rfl, _, rfl, _, _, rfl, rfl, _, _, rfl, rfl, ⟨by decide, by decide⟩, _, _, (((((n : Int) + d) / 2).toNat : Nat) : Int), _, rfl, by rw [hk], SqL.of (g3 _ _ hd), atI_nat (by rw [List.getElem?_map, sh]; rfl), k⟩
    · rw [decide_eq_false (fun e => h2 (V.int.inj e))]
      refine iteT ?_
      rw [show (0 : Int) = Nd.P n d from (P_odd (by omega)).symm]
      exact k
abbrev N_law_is : List Str := ["_law_fraction", "_law_scaled", "_law_last"]
theorem sc_law_is : FnScope N_law_is ["_law_fraction", "_law_scaled", "_law_last"] (defScope s_law_is) := ⟨rfl, rfl, rfl, by decide +kernel, rfl, by decide +kernel, by decide +kernel⟩
def sp_is (K : PySem.W.Frag) : Sp := fun vs H Q _ => ∃ (v : V) (x : Int) (n : Nat), vs = [v, .int x, .int n] ∧ Fr K H v x (2 ^ n) ∧ x.natAbs < 2 ^ 60 ∧ n ≤ 6 ∧ Q (.bl true) H
theorem O_law_is (T : Tx K mg) : Ok P w K mg base 1 (He.ga K "_law_is") ["_law_fraction", "_law_scaled", "_law_last"] (sp_is K) := by
  refine Ok.mk T.f_law_is sc_law_is (fun vs H Q E h => ?_) (fun _ _ _ _ _ _ us hl => match us, hl with | [_, _, _], _ => rfl) (fun cdv A outer s H vs Q E hr h => ?_)
  · obtain ⟨v, x, n, rfl, _⟩ := h; rfl
  · obtain ⟨v, x, n, rfl, hv, hx, hn, k⟩ := h
    obtain ⟨a, rfl, ha⟩ := tpI_inv hv
    have h1 := lp_fst x (2 ^ n)
    have h2 := lp_snd x (2 ^ n)
    have g1 := g0_pos (a := x) (b := 2 ^ n) (two_pow_pos n)
    have hb : (lp x (2 ^ n)).1.natAbs < 2 ^ 60 := by
      have e := congrArg Int.natAbs h1
      rw [Int.natAbs_mul] at e
      have : 1 * (lp x (2 ^ n)).1.natAbs ≤ (g0 x (2 ^ n)).natAbs * (lp x (2 ^ n)).1.natAbs := Nat.mul_le_mul_right _ (by omega)
      omega
    refine ⟨_, (pss_one (ps_ret (pe_cmpR op_eq (pe_op op_shl (pe_ix ix_tup (pv 0) pe_int (fun _ _ => rfl)) (pv 2)) (pe_op op_mul (pv 1) (pe_ix ix_tup (pv 0) pe_int (fun _ _ => rfl))) (nomark _)))), ?_⟩
    refine ⟨_, rfl, a, _, _, _, rfl, rfl, ha, rfl, _, rfl, _, _, rfl, rfl, ⟨by omega, by omega, by omega⟩, _, rfl, _, rfl, a, _, _, _, rfl, rfl, ha, rfl, _, _, rfl, rfl, .inl (by omega), rfl, ?_⟩
    show Q (V.bl (decide (V.int ((lp x (2 ^ n)).1 * 2 ^ ((n : Nat) : Int).toNat) = V.int (x * (lp x (2 ^ n)).2)))) H
    have e : (lp x (2 ^ n)).1 * 2 ^ ((n : Nat) : Int).toNat = x * (lp x (2 ^ n)).2 := by
      rw [Int.toNat_natCast]
      generalize (lp x (2 ^ n)).1 = p at *
      generalize (lp x (2 ^ n)).2 = q at *
      generalize g0 x (2 ^ n) = g at *
      rw [← h2, ← h1]
      simp only [Int.mul_comm, Int.mul_left_comm, Int.mul_assoc]
    rw [e, decide_eq_true rfl]
    exact k
end
end Nw
namespace Nw
open PySem PySem.Spec PyProof.Rows L2 Nd
/-- spots whose hands show to the left, as a dict -/
abbrev onH (ys : List Int) : List (Key × V) := ys.map fun y => ((Sum.inl y : Key), V.bl true)
theorem onH_val {y : Int} : ∀ {ys : List Int}, valV (onH ys) (Sum.inl y : Key) = if y ∈ ys then some (V.bl true) else none
  | [] => by simp [valV]
  | z :: ys => by
    unfold valV onH
    rw [List.map_cons]
    by_cases e : z = y
    · rw [List.find?_cons_of_pos (by simp [e]), if_pos (by simp [e])]
      rfl
    · rw [List.find?_cons_of_neg (by simpa using fun h => e h)]
      have := onH_val (y := y) (ys := ys)
      unfold valV onH at this
      rw [this]
      have : y ∈ z :: ys ↔ y ∈ ys := by simp [Ne.symm e]
      simp only [this]
theorem onH_some {y : Int} {ys : List Int} : (valV (onH ys) (Sum.inl y : Key)).isSome = isIn ys y := by
  rw [onH_val]
  unfold isIn
  split <;> simp [*]
theorem onH_put {y : Int} {ys : List Int} (h : isIn ys y = false) : putK (onH ys) (Sum.inl y : Key) (.bl true) = onH (ys ++ [y]) := by
  unfold putK
  rw [valV_any, onH_some, h]
  unfold onH
  rw [List.map_append]
  rfl
theorem onH_drop {y : Int} {ys : List Int} : dropK (onH ys) (Sum.inl y : Key) = onH (ys.filter fun z => decide (z ≠ y)) := by
  unfold dropK onH
  rw [List.filter_map]
  congr 1
  refine List.filter_congr fun z _ => ?_
  simp [Function.comp]
def HandT (H : Hp) (D : Addr) (l : LF) (m : Nat) : Prop := ∃ ls : List Int, H D = some (.dK (onH ls)) ∧ ls.Nodup ∧ (∀ y, isIn ls y = l y) ∧ ls.length ≤ m
def HeapT (H : Hp) (D : Addr) (h : HF) (m : Nat) : Prop := ∃ L : Tab, H D = some (.dK (tabV V.int L)) ∧ (L.map (·.1)).Nodup ∧ (∀ y, gets L y = h y) ∧ (∀ p ∈ L, 0 ≤ p.2) ∧ L.length ≤ m
theorem HandT.same {H H' : Hp} {D : Addr} {l : LF} {m : Nat} (h : HandT H D l m) (s : Same H H') : HandT H' D l m := by
  obtain ⟨ls, h1, h2⟩ := h
  exact ⟨ls, s _ _ h1, h2⟩
theorem HeapT.same {H H' : Hp} {D : Addr} {l : HF} {m : Nat} (h : HeapT H D l m) (s : Same H H') : HeapT H' D l m := by
  obtain ⟨ls, h1, h2⟩ := h
  exact ⟨ls, s _ _ h1, h2⟩
/-- the hands behind some heaps -/
theorem hand_even {l l2 : LF} {L : Tab} {p : Int × Int} (h : ∀ y, l2 y = stepL (gets L) l y) (hp : p.1 ∉ L.map (·.1)) (he : p.2 % 2 = 0) : ∀ y, l2 y = stepL (gets (L ++ [p])) l y := by
  intro y
  rw [h y]
  unfold stepL
  rw [gets_snoc hp]
  by_cases e : y = p.1
  · rw [if_pos e, e, gets_out hp]
    rw [if_neg (by omega), if_neg (by omega)]
  · rw [if_neg e, Int.add_zero]
theorem hand_odd {l l2 l3 : LF} {L : Tab} {p : Int × Int} (h : ∀ y, l2 y = stepL (gets L) l y) (hp : p.1 ∉ L.map (·.1)) (he : p.2 % 2 = 1) (h3 : ∀ y, l3 y = if y = p.1 then !(l y) else l2 y) : ∀ y, l3 y = stepL (gets (L ++ [p])) l y := by
  intro y
  rw [h3 y]
  unfold stepL
  rw [gets_snoc hp]
  by_cases e : y = p.1
  · rw [if_pos e, if_pos e, e, gets_out hp, if_pos (by omega)]
  · rw [if_neg e, if_neg e, Int.add_zero, h y]
    rfl
section
variable {P : Program} {w : World} {K : PySem.W.Frag} {mg : Str → Option Value} {base : Heap}
abbrev N_law_sent : List Str := ["_law_heaps", "_law_lefts", "_law_later", "_law_hands", "_law_spot", "_law_many", "_law_is_left", "_law_left"]
theorem sc_law_sent : FnScope N_law_sent ["_law_heaps", "_law_lefts"] (defScope s_law_sent) := ⟨rfl, rfl, rfl, by decide +kernel, rfl, by decide +kernel, by decide +kernel⟩
def sp_sentT (K : PySem.W.Frag) : Sp := fun vs H Q _ => ∃ (A B : Addr) (h : HF) (l : LF) (m c : Nat), vs = [.ref A, .ref B] ∧ HeapT H A h m ∧ HandT H B l c ∧ m ≤ 10000 ∧ c ≤ 10000 ∧
  ∀ T A' B' H', Same H H' → SqT K H' T [.ref A', .ref B'] → HeapT H' A' (stepH h l) (2 * m) → HandT H' B' (stepL h l) (c + m) → Q (.ref T) H'
theorem O_law_sent (T : Tx K mg) : Ok P w K mg base 1 (He.ga K "_law_sent") ["_law_heaps", "_law_lefts"] (sp_sentT K) := by
  refine Ok.mk T.f_law_sent sc_law_sent (fun vs H Q E h => ?_) (fun _ _ _ _ _ _ us hl => match us, hl with | [_, _], _ => rfl) (fun cdv A outer s H vs Q E hr h => ?_)
  · obtain ⟨A, B, h, l, m, c, rfl, _⟩ := h; rfl
  · obtain ⟨A, B, h, l, m, c, rfl, ⟨L, hA, nL, gL, pL, lL⟩, ⟨ls, hB, nls, gls, lls⟩, hm, hc, k⟩ := h
    have hu := Nat.lt_of_le_of_lt (Nat.add_le_add_left (by decide : 1 ≤ 64) _) hr.units
    obtain rfl : gets L = h := funext gL
    obtain rfl : isIn ls = l := funext gls
    refine ⟨_, (pss_cons (ps_par (i := 2) (j := 3) rfl sc_law_sent.nd rfl rfl (by decide) rfl rfl (pa_cons pe_dnewK (pa_cons (pe_callTy call_dictD (by rfl) T.z_dict (by decide +kernel) (pa_cons (pv 1) pa_nil)) pa_nil)) (by rfl))
      (pss_cons (ps_lock (ps_for PassesOwn.never rfl (pi_keys (pv 0)) (pg_name (i := 4) sc_law_sent.nd rfl (.inl rfl) (by first | exact .inl rfl | exact .inr rfl))
      (pss_cons (ps_par (i := 5) (j := 6) rfl sc_law_sent.nd rfl rfl (by decide) rfl rfl (pa_cons (pe_dget hu (pv 0) (pv 4) (fun _ _ => rfl)) (pa_cons (pe_cmp (pc_din hu (pv 4) (pv 1)) rfl) pa_nil)) (by rfl))
      (pss_cons (ps_set (i := 7) sc_law_sent.nd rfl (.inl rfl) (pe_op op_fdiv (pe_op op_add (pv 5) (pe_callTy call_int1 (by rfl) T.z_int (by decide +kernel) (pa_cons (pv 6) pa_nil))) pe_int))
      (pss_cons (ps_dput hu (pv 2) (pe_op op_sub (pv 4) pe_int) (pe_op op_add (pe_dget2 hu (pv 2) (pe_op op_sub (pv 4) pe_int) pe_int ⟨rfl, rfl, rfl, rfl⟩) (pv 7)) rfl)
      (pss_cons (ps_dput hu (pv 2) (pe_op op_add (pv 4) pe_int) (pe_op op_sub (pe_op op_add (pe_dget2 hu (pv 2) (pe_op op_add (pv 4) pe_int) pe_int ⟨rfl, rfl, rfl, rfl⟩) (pv 5)) (pv 7)) rfl)
      (pss_one (ps_if (pt_cmpR op_eq (pe_op op_mod (pe_callTy call_int1 (by rfl) T.z_int (by decide +kernel) (pa_cons (pv 5) pa_nil)) pe_int) pe_int (nomark _))
      (pss_one (ps_if (pt_val (pv 6))
      (pss_one (ps_expr (pe_dpop1 (pv 3) (pv 4) ⟨rfl, rfl, rfl, rfl⟩)))
      (pss_one (ps_dput hu (pv 3) (pv 4) pe_bl rfl))))
      pss_nil))))))))
      (pss_one (ps_ret (pe_tup (pa_cons (pv 2) (pa_cons (pv 3) pa_nil))))))), ?_⟩
    intro Lt hLt
    have s1 : Same H (upd H Lt (.dK [])) := same_new hLt
    refine ⟨_, rfl, B, _, rfl, .of (s1 _ _ hB), fun Hd hHd => ⟨_, _, rfl, ?_⟩⟩
    have s2 : Same H (upd (upd H Lt (.dK [])) Hd (.dK (onH ls))) := s1.trans (same_new hHd)
    have hLt2 : (upd (upd H Lt (.dK [])) Hd (.dK (onH ls))) Lt = some (.dK []) := (same_new (o := .dK (onH ls)) hHd) _ _ upd_same
    have hHd2 : (upd (upd H Lt (.dK [])) Hd (.dK (onH ls))) Hd = some (.dK (onH ls)) := upd_same
    have nHd : H Hd = none := none_back s1 hHd
    have hne : Lt ≠ Hd := ne_of_none (upd_same (H := H) (a := Lt) (o := .dK [])) hHd
    generalize upd (upd H Lt (.dK [])) Hd (.dK (onH ls)) = H2 at s2 hLt2 hHd2
    have hA2 := s2 _ _ hA
    have hB2 := s2 _ _ hB
    have nAL : Lt ≠ A := fun e => by rw [e, hA] at hLt; cases hLt
    have nAH : Hd ≠ A := fun e => by rw [e, hA] at nHd; cases nHd
    refine ⟨A, .dK (tabV V.int L), hA2, trivial, fun od => ⟨_, rfl, A, od, rfl, .inl ⟨_, upd_same, ?_⟩⟩⟩
    have sx2 : ∀ b o, b ≠ A → H2 b = some o → (upd H2 A (.frz od (.dK (tabV V.int L)))) b = some o := fun b o n e => by rw [upd_ne n]; exact e
    have hA3 : (upd H2 A (.frz od (.dK (tabV V.int L)))) A = some (.frz od (.dK (tabV V.int L))) := upd_same
    refine for_src (Src.keys (d := A) (o := od) (kvs := tabV V.int L)) (fun i σ H' => ∃ o4 o5 o6 o7 ls2, σ = [some (.ref A), some (.ref B), some (.ref Lt), some (.ref Hd), o4, o5, o6, o7] ∧ (∀ b o, b ≠ A → H b = some o → H' b = some o) ∧ H' A = some (.frz od (.dK (tabV V.int L))) ∧ H' Lt = some (.dK (tabV V.int (tickT ls (L.take i)).1)) ∧ H' Hd = some (.dK (onH ls2)) ∧ ls2.Nodup ∧ (∀ y, isIn ls2 y = stepL (gets (L.take i)) (isIn ls) y) ∧ ls2.length ≤ c + i) ?_ ?_ ?_ ?_
    · refine ⟨_, _, _, _, ls, rfl, fun b o n e => sx2 _ _ n (s2 _ _ e), hA3, ?_, ?_, nls, fun y => ?_, by omega⟩
      · rw [upd_ne nAL]; exact hLt2
      · rw [upd_ne nAH]; exact hHd2
      · show _ = if (0 : Int) % 2 = 1 then _ else _
        rw [if_neg (by decide)]
    · rintro i σ H' _ ⟨_, _, _, _, _, _, _, h, _⟩
      exact h
    · rintro i d x σ H3 H4 hi ⟨o4, o5, o6, o7, ls2, rfl, sx3, qA, qL, qH, n2, g2, l2⟩ s4 hx
      subst hx
      rw [List.getElem?_map] at hi
      obtain ⟨p, hp, rfl⟩ := Option.map_eq_some_iff.mp hi
      have hpl := (List.getElem?_eq_some_iff.mp hp).1
      have hpm := List.mem_of_getElem? hp
      have h0 := pL p hpm
      have hfr : p.1 ∉ (L.take i).map (·.1) := by
        rw [List.map_take]
        intro hm
        obtain ⟨j, hj, ej⟩ := List.mem_iff_getElem.mp hm
        rw [List.length_take] at hj
        rw [List.getElem_take, List.getElem_map] at ej
        have ne := List.pairwise_iff_getElem.mp (List.nodup_iff_pairwise_ne.mp nL) j i (by rw [List.length_map]; omega) (by rw [List.length_map]; exact hpl) (by omega)
        rw [List.getElem_map, List.getElem_map] at ne
        refine ne (ej.trans ?_)
        have := (List.getElem?_eq_some_iff.mp hp).2
        rw [this]
      have htk : L.take (i + 1) = L.take i ++ [p] := by rw [List.take_succ, hp]; rfl
      have tk := tick_take (ls := ls) (hs := L) (i := i) hp
      have tl := (tick_all nls nL pL i (by omega)).l1
      rw [List.length_take] at tl
      have qA4 := s4 _ _ qA
      have qL4 := s4 _ _ qL
      have qH4 := s4 _ _ qH
      have hBr : Rd H4 B (.dK (onH ls)) := by
        by_cases e : B = A
        · subst e
          have e2 : HO.dK (tabV V.int L) = HO.dK (onH ls) := Option.some.inj (hA.symm.trans hB)
          rw [e2] at qA4
          exact .inr ⟨od, qA4⟩
        · exact .of (s4 _ _ (sx3 _ _ e hB))
      have hv : valV (tabV V.int L) (Sum.inl p.1 : Key) = some (V.int p.2) := by
        rw [valV_tab, lookI_mem nL hpm]
        rfl
      have hu0 : isIn ls2 p.1 = isIn ls p.1 := by
        rw [g2 p.1]
        unfold stepL
        rw [gets_out hfr, if_neg (by decide)]
      refine ⟨_, rfl, _, rfl, A, V.int p.2, rfl, .inl ⟨_, Sum.inl p.1, .inr ⟨od, qA4⟩, rfl, hv.symm⟩, ?_⟩
      refine ⟨_, rfl, _, rfl, B, _, rfl, .inl ⟨_, Sum.inl p.1, hBr, rfl, rfl⟩, _, _, rfl, ?_⟩
      rw [onH_some]
      refine ⟨_, rfl, _, rfl, .inr ⟨_, rfl, _, _, rfl, rfl, _, _, rfl, rfl, ⟨by decide, by decide⟩, ?_⟩⟩
      refine ⟨_, rfl, Lt, rfl, isd_tab qL4, _, rfl, _, _, rfl, rfl, _, dg_tab qL4, _, rfl, _, _, getD_tab, rfl, _, rfl, _, rfl, _, _, rfl, rfl, Lt, _, rfl, dp_tab (v := gets (tickT ls (L.take i)).1 (p.1 - 1) + sentL ls p) qL4 (by omega), ?_⟩
      have qL5 : (upd H4 Lt (.dK (tabV V.int (addI (tickT ls (L.take i)).1 (p.1 - 1) (sentL ls p))))) Lt = some (.dK (tabV V.int (addI (tickT ls (L.take i)).1 (p.1 - 1) (sentL ls p)))) := upd_same
      have lL5 := len_add (L := (tickT ls (L.take i)).1) (k := p.1 - 1) (v := sentL ls p)
      refine ⟨_, rfl, Lt, rfl, isd_tab qL5, _, rfl, _, _, rfl, rfl, _, dg_tab qL5, _, rfl, _, _, getD_tab, rfl, _, rfl, _, _, rfl, rfl, _, rfl, _, rfl, _, _, rfl, rfl, Lt, _, rfl, dp_tab (v := gets (addI (tickT ls (L.take i)).1 (p.1 - 1) (sentL ls p)) (p.1 + 1) + p.2 - sentL ls p) qL5 (by omega), ?_⟩
      have e6 : putI (addI (tickT ls (L.take i)).1 (p.1 - 1) (sentL ls p)) (p.1 + 1) (gets (addI (tickT ls (L.take i)).1 (p.1 - 1) (sentL ls p)) (p.1 + 1) + p.2 - sentL ls p) = (tickT ls (L.take (i + 1))).1 := by
        rw [tk, Int.add_sub_assoc]
        rfl
      rw [e6, show putI (tickT ls (L.take i)).1 (p.1 - 1) (gets (tickT ls (L.take i)).1 (p.1 - 1) + sentL ls p) = addI (tickT ls (L.take i)).1 (p.1 - 1) (sentL ls p) from rfl]
      have sL : ∀ b, b ≠ Lt → (upd (upd H4 Lt (.dK (tabV V.int (addI (tickT ls (L.take i)).1 (p.1 - 1) (sentL ls p))))) Lt (.dK (tabV V.int (tickT ls (L.take (i + 1))).1))) b = H4 b := fun b n => by rw [upd_ne n, upd_ne n]
      have qL6 : (upd (upd H4 Lt (.dK (tabV V.int (addI (tickT ls (L.take i)).1 (p.1 - 1) (sentL ls p))))) Lt (.dK (tabV V.int (tickT ls (L.take (i + 1))).1))) Lt = some (.dK (tabV V.int (tickT ls (L.take (i + 1))).1)) := upd_same
      generalize upd (upd H4 Lt (.dK (tabV V.int (addI (tickT ls (L.take i)).1 (p.1 - 1) (sentL ls p))))) Lt (.dK (tabV V.int (tickT ls (L.take (i + 1))).1)) = H6 at sL qL6 ⊢
      have qA6 := (sL A (Ne.symm nAL)).trans qA4
      have qH6 := (sL Hd (Ne.symm hne)).trans qH4
      have sx6 : ∀ b o, b ≠ A → H b = some o → H6 b = some o := fun b o n e => (sL b (ne_of_none e hLt)).trans (s4 _ _ (sx3 _ _ n e))
      refine ⟨_, rfl, .inl ⟨_, rfl, _, _, rfl, rfl, (show (0 : Int) < 2 by decide), rfl, _, rfl, ?_⟩⟩
      by_cases hod : p.2 % 2 = 1
      · refine dT (congrArg V.int hod) ⟨_, rfl, _, rfl, ?_⟩
        by_cases hin : isIn ls p.1 = true
        · rw [hin]
          refine iteT ⟨_, rfl, Hd, rfl, isd_tab qH6, _, rfl, _, Sum.inl p.1, V.bl true, qH6, rfl, ?_, ?_⟩
          · rw [onH_val, if_pos (by rw [hin] at hu0; exact of_decide_eq_true hu0)]
          refine ⟨_, _, _, _, ls2.filter fun z => decide (z ≠ p.1), rfl, fun b o n e => ?_, ?_, ?_, ?_, n2.filter _, ?_, ?_⟩
          · rw [upd_ne (ne_of_none e nHd)]; exact sx6 _ _ n e
          · rw [upd_ne (Ne.symm nAH)]; exact qA6
          · rw [upd_ne hne]; exact qL6
          · rw [upd_same, onH_drop]
          · rw [htk]
            refine hand_odd g2 hfr hod fun y => ?_
            by_cases ey : y = p.1
            · rw [if_pos ey, ey, hin]
              unfold isIn
              simp
            · rw [if_neg ey]
              unfold isIn
              simp [ey]
          · have := List.length_filter_le (fun z => decide (z ≠ p.1)) ls2
            omega
        · have hin' : isIn ls p.1 = false := by simpa using hin
          rw [hin'] at hu0 ⊢
          refine iteF ⟨_, rfl, _, rfl, Hd, _, rfl, DPut.k (k := Sum.inl p.1) qH6 ?_, ?_⟩
          · rw [List.length_map]; exact Nat.lt_of_le_of_lt (by omega : _ ≤ 1000000) (by decide)
          refine ⟨_, _, _, _, ls2 ++ [p.1], rfl, fun b o n e => ?_, ?_, ?_, ?_, ?_, ?_, ?_⟩
          · rw [upd_ne (ne_of_none e nHd)]; exact sx6 _ _ n e
          · rw [upd_ne (Ne.symm nAH)]; exact qA6
          · rw [upd_ne hne]; exact qL6
          · rw [upd_same, onH_put hu0]
          · have : p.1 ∉ ls2 := of_decide_eq_false hu0
            rw [List.nodup_append]
            exact ⟨n2, by simp, fun x hx y hy e => this (by rw [List.mem_singleton] at hy; rw [← hy, ← e]; exact hx)⟩
          · rw [htk]
            refine hand_odd g2 hfr hod fun y => ?_
            by_cases ey : y = p.1
            · rw [if_pos ey, ey, hin']
              unfold isIn
              simp
            · rw [if_neg ey]
              unfold isIn
              simp [ey]
          · rw [List.length_append, List.length_singleton]; omega
      · refine dFa (fun e => hod (V.int.inj e)) ?_
        exact ⟨_, _, _, _, ls2, rfl, sx6, qA6, qL6, qH6, n2, by rw [htk]; exact hand_even g2 hfr (by omega), by omega⟩
    · rintro σ H3 ⟨o4, o5, o6, o7, ls2, rfl, sx3, qA, qL, qH, n2, g2, l2⟩
      rw [List.length_map, List.take_length] at qL g2
      rw [List.length_map] at l2
      have tk := tick_all nls nL pL L.length (Nat.le_refl _)
      rw [List.take_length] at tk
      have s3 : Same H (upd H3 A (.dK (tabV V.int L))) := fun b o e => by
        by_cases h : b = A
        · subst h
          rw [upd_same, ← hA, e]
        · rw [upd_ne h]; exact sx3 _ _ h e
      refine ⟨qA, _, rfl, _, rfl, (by show 2 ≤ sizeLine; decide), fun T hT => ?_⟩
      have sT : Same (upd H3 A (.dK (tabV V.int L))) (upd (upd H3 A (.dK (tabV V.int L))) T (.tup [.ref Lt, .ref Hd])) := same_new hT
      refine k T Lt Hd _ (s3.trans sT) (SqT.of upd_same) ⟨_, sT _ _ (by rw [upd_ne nAL]; exact qL), tk.n1, tk.g1, tk.p1, by have := tk.l1; omega⟩ ⟨ls2, sT _ _ (by rw [upd_ne nAH]; exact qH), n2, g2, by omega⟩
end
end Nw
namespace Nw
open PySem PySem.Spec PyProof.Rows L2 Nd
theorem paired_two_refs {α : Type} {K : PySem.W.Frag} {H : Hp} {f g : α → V} : ∀ {l : List α} {ys : List V}, Paired (fun d y => ∃ t, y = .ref t ∧ H t = some (.tup [f d, g d])) l ys → ∃ ps : List Addr, ys = ps.map V.ref ∧ Paired (fun p d => SqT K H p [f d, g d]) ps l
  | _, _, .nil => ⟨[], rfl, .nil⟩
  | _, _, .cons h t => by
    obtain ⟨ps, e, p⟩ := paired_two_refs (K := K) t
    obtain ⟨a, rfl, h1⟩ := h
    exact ⟨a :: ps, by rw [e]; rfl, .cons (SqT.of h1) p⟩
theorem paired_mapR {α β γ : Type} {F : γ → β → Prop} {f : α → β} : ∀ {m : List γ} {l : List α}, Paired (fun c a => F c (f a)) m l → Paired F m (l.map f)
  | _, _, .nil => .nil
  | _, _, .cons h t => .cons h (paired_mapR t)
theorem merge_onH {ls : List Int} (h : ls.Nodup) : mergeK [] (onH ls) = onH ls := by
  have e : onH ls = tabV (fun _ => V.bl true) (ls.map fun y => (y, (0 : Int))) := by
    unfold onH tabV
    rw [List.map_map]
    rfl
  rw [e]
  refine mergeK_tab ?_
  rw [List.map_map, show ((fun p : Int × Int => p.1) ∘ fun y : Int => (y, (0 : Int))) = id from rfl, List.map_id]
  exact h
section
variable {X : Cx} {tg : Expr}
/-- over a tuple or a list, whichever -/
def iLJ (K : PySem.W.Frag) (tl : TE) : TI := fun σ H R => tl σ H fun x H1 => ∃ (a : Addr) (J : It), x = .ref a ∧ (((∃ xs, SqT K H1 a xs) ∧ J = Itt K a) ∨ ((∃ xs, SqL K H1 a xs) ∧ J = Itl K a)) ∧ R J H1
theorem pi_lj {l : Expr} {tl : TE} (hl : PE X l tl) : PI X tg l (iLJ X.K tl) := by
  refine ⟨fun pins s σ H R I h => ?_⟩
  refine thn (hl.run pins s σ H _ I h) fun v s1 ⟨x, H1, I1, r1, q1⟩ => ?_
  obtain ⟨a, J, e, hJ, q⟩ := q1
  subst e
  cases r1
  rcases hJ with ⟨⟨xs, hq⟩, rfl⟩ | ⟨⟨xs, hq⟩, rfl⟩
  · obtain ⟨its, rv, p, hz⟩ := I1.tuple hq
    refine wpAny_pyIter_tuple (show s1.heap.IsTuple a its.toArray from p) ?_
    refine ⟨s1.heap.objs.size, [s1.heap.objs.size], _, _, H1, rfl, I1.kept (t' := s1.toks) fun b o e => Heap.get?_push_of_some _ e, turn_tuple a _, ⟨_, Heap.get?_push_size _ rfl, rfl, rfl⟩, fun b hb => ?_, q⟩
    have e : b = s1.heap.objs.size := by simpa using hb
    subst e
    exact I1.fpOk (Nat.le_refl _) (I1.hok.fresh (Nat.le_refl _))
  · obtain ⟨its, rv, p, hz⟩ := I1.list hq
    refine wpAny_pyIter_list p.isList ?_
    refine ⟨s1.heap.objs.size, [s1.heap.objs.size], _, _, H1, rfl, I1.kept (t' := s1.toks) fun b o e => Heap.get?_push_of_some _ e, turn_list a _, ⟨_, Heap.get?_push_size _ rfl, rfl, rfl⟩, fun b hb => ?_, q⟩
    have e : b = s1.heap.objs.size := by simpa using hb
    subst e
    exact I1.fpOk (Nat.le_refl _) (I1.hok.fresh (Nat.le_refl _))
end
section
variable {P : Program} {w : World} {K : PySem.W.Frag} {mg : Str → Option Value} {base : Heap}
abbrev N_law_gap : List Str := ["_law_rows_here", "_law_heaps", "_law_lefts", "_law_last", "_law_here", "_law_hands", "_law_paths_here", "_law_total", "_law_tick", "_law_place", "_law_end", "_law_weight", "_law_mean", "_law_spot", "_law_many", "_law_row"]
theorem sc_law_gap : FnScope N_law_gap ["_law_rows_here", "_law_heaps", "_law_lefts", "_law_last"] (defScope s_law_gap) := ⟨rfl, rfl, rfl, by decide +kernel, rfl, by decide +kernel, by decide +kernel⟩
/-- rows in a list or a tuple -/
def RowsIn (K : PySem.W.Frag) (H : Hp) (R : V) (rows : List PRow) : Prop := Tp K H R (.tuple (rows.map dR)) ∨ Lp K H R (rows.map dR)
theorem RowsIn.same {K : PySem.W.Frag} {H H' : Hp} {R : V} {rows : List PRow} (h : RowsIn K H R rows) (s : Same H H') : RowsIn K H' R rows := h.imp (fun h => h.same s) fun h => h.same s
theorem RowsIn.src {K : PySem.W.Frag} {H : Hp} {R : V} {rows : List PRow} (h : RowsIn K H R rows) : ∃ (a : Addr) (J : It) (G : Hp → Prop), R = .ref a ∧ Src J G rows (fun r x H => Tp K H x (dR r)) ∧ (∀ H', Same H H' → G H') ∧ (((∃ xs, SqT K H a xs) ∧ J = Itt K a) ∨ ((∃ xs, SqL K H a xs) ∧ J = Itl K a)) := by
  rcases h with h | h
  · obtain ⟨a, xs, e, h1, h2, _⟩ := tpL_inv h
    exact ⟨a, _, _, e, Src.tp (K := K) (a := a) (f := dR) (l := rows) (xs := xs), fun H' s => ⟨same_t s h1, h2.same s⟩, .inl ⟨⟨_, h1⟩, rfl⟩⟩
  · obtain ⟨a, xs, e, h1, h2⟩ := h
    exact ⟨a, _, _, e, Src.lp (K := K) (a := a) (f := dR) (l := rows) (xs := xs), fun H' s => ⟨s.seq h1, h2.same s⟩, .inr ⟨⟨_, h1⟩, rfl⟩⟩
def sp_gap (K : PySem.W.Frag) : Sp := fun vs H Q _ => ∃ (R y z : V) (rows : List PRow) (F : Heaps) (Ls : List Int) (last : Nat), vs = [R, y, z, .int last] ∧ RowsIn K H R rows ∧ Tp K H y (dH F) ∧ Tp K H z (dI Ls) ∧
  (F.map (·.1)).Nodup ∧ (∀ p ∈ F, (1 ≤ p.2 ∧ p.2 ≤ 1000) ∧ -100 ≤ p.1 ∧ p.1 ≤ 100) ∧ F.length ≤ 100 ∧ Ls.Nodup ∧ Ls.length ≤ 100 ∧ rows.length ≤ 40 ∧ (∀ r ∈ rows, r.2.1 ≤ last ∧ -100 ≤ r.2.2 ∧ r.2.2 ≤ 100 ∧ -40 ≤ r.1 ∧ r.1 ≤ 40) ∧ last ≤ 6 ∧ ∀ H', Same H H' → Q (.int (gap2 rows last (gets F) (isIn Ls))) H'
theorem O_law_gap (T : Tx K mg) : Ok P w K mg base 2 (He.ga K "_law_gap") ["_law_rows_here", "_law_heaps", "_law_lefts", "_law_last"] (sp_gap K) := by
  have O_law_paths := O_law_paths (P := P) (w := w) (base := base) T
  have O_law_share := O_law_share (P := P) (w := w) (base := base) T
  have O_law_sent := O_law_sent (P := P) (w := w) (base := base) T
  refine Ok.mk T.f_law_gap sc_law_gap (fun vs H Q E h => ?_) (fun _ _ _ _ _ _ us hl => match us, hl with | [_, _, _, _], _ => rfl) (fun cdv A outer s H vs Q E hr h => ?_)
  · obtain ⟨R, y, z, rows, F, Ls, last, rfl, _⟩ := h; rfl
  · obtain ⟨R, y, z, rows, F, Ls, last, rfl, hR, hy, hz, nF, bF, lF, nL, lL, lR, bR, hl6, k⟩ := h
    have hu := Nat.lt_of_le_of_lt (Nat.add_le_add_left (by decide : 1 ≤ 64) _) hr.units
    obtain ⟨ya, yx, rfl, y1, y2, y3⟩ := tpL_inv hy
    obtain ⟨za, rfl, z1⟩ := tpI_inv hz
    refine ⟨_, (pss_cons (ps_asg (pe_tup (pa_cons (pe_callTy (call_dictP rfl) (by rfl) T.z_dict (by decide +kernel) (pa_cons (pe_lc (own := [("_law_spot", 13), ("_law_many", 14)]) rfl sc_law_gap.nd (pi_tup (pv 1)) (blkOk_by (N := N_law_gap) (sc := defScope s_law_gap) (by decide +kernel)) (fun _ _ _ _ _ => (pg_tupK (K := K) (n := 2) rfl rfl (pgs_cons (pg_name (i := 13) sc_law_gap.nd rfl (.inl rfl) (by first | exact .inl rfl | exact .inr rfl)) (pgs_cons (pg_name (i := 14) sc_law_gap.nd rfl (.inl rfl) (by first | exact .inl rfl | exact .inr rfl)) pgs_nil)))) (fun _ _ _ _ _ => pts_nil) (fun _ _ _ _ _ => (pe_tup (pa_cons (pv 13) (pa_cons (pv 14) pa_nil))))) pa_nil)) (pa_cons (pe_callTy (call_dictP rfl) (by rfl) T.z_dict (by decide +kernel) (pa_cons (pe_lc (own := [("_law_spot", 13)]) rfl sc_law_gap.nd (pi_tup (pv 2)) (blkOk_by (N := N_law_gap) (sc := defScope s_law_gap) (by decide +kernel)) (fun _ _ _ _ _ => (pg_name (i := 13) sc_law_gap.nd rfl (.inl rfl) (by first | exact .inl rfl | exact .inr rfl))) (fun _ _ _ _ _ => pts_nil) (fun _ _ _ _ _ => (pe_tup (pa_cons (pv 13) (pa_cons pe_bl pa_nil))))) pa_nil)) (pa_cons (pe_fn O_law_paths (hr.mono (by decide)) T.g__law_paths (pa_cons (pv 3) pa_nil)) (pa_cons pe_int pa_nil))))) (pg_tup rfl (pgs_cons (pg_name (i := 4) sc_law_gap.nd rfl (.inl rfl) (by first | exact .inl rfl | exact .inr rfl)) (pgs_cons (pg_name (i := 5) sc_law_gap.nd rfl (.inl rfl) (by first | exact .inl rfl | exact .inr rfl)) (pgs_cons (pg_name (i := 6) sc_law_gap.nd rfl (.inr rfl) (by first | exact .inl rfl | exact .inr rfl)) (pgs_cons (pg_name (i := 7) sc_law_gap.nd rfl (.inl rfl) (by first | exact .inl rfl | exact .inr rfl)) pgs_nil))))))
      (pss_cons (ps_for PassesOwn.never rfl (pi_range1 (by rfl) T.z_range (pa_cons (pe_op op_add (pv 3) pe_int) pa_nil)) (pg_name (i := 8) sc_law_gap.nd rfl (.inr rfl) (by first | exact .inl rfl | exact .inr rfl))
      (pss_cons (ps_for PassesOwn.never rfl (pi_list (pe_lc (own := [("_law_row", 15)]) rfl sc_law_gap.nd (pi_lj (pv 0)) (blkOk_by (N := N_law_gap) (sc := defScope s_law_gap) (by decide +kernel)) (fun _ _ _ _ _ => (pg_name (i := 15) sc_law_gap.nd rfl (.inl rfl) (by first | exact .inl rfl | exact .inr rfl))) (fun _ _ _ _ _ => (pts_one (pt_cmpR op_eq (pe_ix (ix_tupK (K := K) rfl) (pv 15) pe_int (fun _ _ => rfl)) (pv 8) (nomark _)))) (fun _ _ _ _ _ => (pv 15)))) (pg_tup rfl (pgs_cons (pg_name (i := 9) sc_law_gap.nd rfl (.inr rfl) (by first | exact .inl rfl | exact .inr rfl)) (pgs_cons (pg_name (i := 10) sc_law_gap.nd rfl (.inr rfl) (by first | exact .inl rfl | exact .inr rfl)) (pgs_cons (pg_name (i := 11) sc_law_gap.nd rfl (.inl rfl) (by first | exact .inl rfl | exact .inr rfl)) pgs_nil))))
      (pss_cons (ps_set (i := 12) sc_law_gap.nd rfl (.inl rfl) (pe_callB (cr_sum rfl) (by rfl) T.z_sum (by decide +kernel) (pa_cons (pe_lc (own := [("_law_spot", 13), ("_law_many", 14)]) rfl sc_law_gap.nd (pi_tup (pv 1)) (blkOk_by (N := N_law_gap) (sc := defScope s_law_gap) (by decide +kernel)) (fun _ _ _ _ _ => (pg_tupK (K := K) (n := 2) rfl rfl (pgs_cons (pg_name (i := 13) sc_law_gap.nd rfl (.inl rfl) (by first | exact .inl rfl | exact .inr rfl)) (pgs_cons (pg_name (i := 14) sc_law_gap.nd rfl (.inl rfl) (by first | exact .inl rfl | exact .inr rfl)) pgs_nil)))) (fun _ _ _ _ _ => pts_nil) (fun _ _ _ _ _ => (pe_op op_mul (pv 14) (pe_fn O_law_share (hr.mono (by decide)) T.g__law_share (pa_cons (pv 6) (pa_cons (pv 10) (pa_cons (pe_op op_sub (pv 9) (pv 13)) pa_nil))))))) pa_nil)))
      (pss_one (ps_set (i := 7) sc_law_gap.nd rfl (.inl rfl) (pe_op op_add (pv 7) (pe_op op_mul (pv 11) (pe_op op_sub (pe_op op_shl (pe_dget2 hu (pv 4) (pv 9) pe_int ⟨rfl, rfl, rfl, rfl⟩) (pv 3)) (pe_op op_mul (pv 12) (pe_op op_shl pe_int (pe_op op_sub (pv 3) (pv 10)))))))))))
      (pss_one (ps_asg (pe_fn O_law_sent (hr.mono (by decide)) T.g__law_sent (pa_cons (pv 4) (pa_cons (pv 5) pa_nil))) (pg_tup rfl (pgs_cons (pg_name (i := 4) sc_law_gap.nd rfl (.inl rfl) (by first | exact .inl rfl | exact .inr rfl)) (pgs_cons (pg_name (i := 5) sc_law_gap.nd rfl (.inl rfl) (by first | exact .inl rfl | exact .inr rfl)) pgs_nil)))))))
      (pss_one (ps_ret (pv 7))))), ?_⟩
    -- the heaps as a dict
    refine ⟨_, rfl, ya, rfl, ⟨_, y1⟩, fun D1 hD1 => lc_src (Src.tp (K := K) (f := dB) (l := F) (xs := yx)) (K := K) hD1 (fun (p : Int × Int) y H => ∃ t, y = .ref t ∧ H t = some (.tup [.int p.1, .int p.2])) (fun _ => true) (fun H' s => ⟨same_t s y1, y2.same s⟩) (fun d y H1 H2 s h => ?_) (by omega) (fun i d x H1 Q1 Q0 s1 hi hx k1 _ => ?_) (fun H1 ys s1 hE1 hp1 => ?_)⟩
    · obtain ⟨t, e, h⟩ := h
      exact ⟨t, e, s.2 _ _ h⟩
    · obtain ⟨q, rfl, hq⟩ := tpI_inv hx
      exact ⟨q, _, rfl, hq, rfl, _, _, rfl, _, _, rfl, rfl, rfl, yes_ ⟨_, rfl, _, rfl, (by show 2 ≤ sizeLine; decide), fun p hp => k1 rfl _ _ (same_new hp) ⟨p, rfl, upd_same⟩⟩⟩
    rw [List.filter_eq_self.mpr (by simp)] at hp1
    obtain ⟨ps1, rfl, pp1⟩ := paired_two_refs (K := K) hp1
    refine ⟨D1, ps1, tabV V.int F, rfl, SqL.of hE1, paired_mapR (f := fun p : Int × Int => ((Sum.inl p.1 : Key), V.int p.2)) pp1, fun A0 hA0 => ?_⟩
    rw [mergeK_tab nF]
    have s2 : Same H (upd H1 A0 (.dK (tabV V.int F))) := s1.trans (same_new hA0)
    have qA : (upd H1 A0 (.dK (tabV V.int F))) A0 = some (.dK (tabV V.int F)) := upd_same
    generalize upd H1 A0 (.dK (tabV V.int F)) = H2 at s2 qA ⊢
    -- the lefts as a dict
    refine ⟨_, rfl, za, rfl, ⟨_, same_t s2 z1⟩, fun D2 hD2 => lc_src (Src.tup (K := K) (a := za) (xs := Ls.map V.int)) (K := K) hD2 (fun (v : V) y H => ∃ t, y = .ref t ∧ H t = some (.tup [v, .bl true])) (fun _ => true) (fun H' s => same_t (s2.trans s) z1) (fun d y H1 H2 s h => ?_) (by rw [List.length_map]; omega) (fun i d x H3 Q1 Q0 s3 hi hx k1 _ => ?_) (fun H3 ys s3 hE3 hp3 => ?_)⟩
    · obtain ⟨t, e, h⟩ := h
      exact ⟨t, e, s.2 _ _ h⟩
    · subst hx
      exact ⟨rfl, yes_ ⟨_, rfl, (by show 2 ≤ sizeLine; decide), fun p hp => k1 rfl _ _ (same_new hp) ⟨p, rfl, upd_same⟩⟩⟩
    rw [List.filter_eq_self.mpr (by simp)] at hp3
    obtain ⟨ps3, rfl, pp3⟩ := paired_two_refs (K := K) (paired_map hp3)
    refine ⟨D2, ps3, onH Ls, rfl, SqL.of hE3, paired_mapR (f := fun y : Int => ((Sum.inl y : Key), V.bl true)) pp3, fun B0 hB0 => ?_⟩
    rw [merge_onH nL]
    have s4 : Same H2 (upd H3 B0 (.dK (onH Ls))) := s3.trans (same_new hB0)
    have qB : (upd H3 B0 (.dK (onH Ls))) B0 = some (.dK (onH Ls)) := upd_same
    generalize upd H3 B0 (.dK (onH Ls)) = H4 at s4 qB ⊢
    refine ⟨_, rfl, last, rfl, hl6, fun L0 H5 s5 pa => ⟨(by show 4 ≤ sizeLine; decide), fun T0 hT0 => ?_⟩⟩
    have s6 : Same H5 (upd H5 T0 (.tup [.ref A0, .ref B0, .ref L0, .int 0])) := same_new hT0
    have qT : (upd H5 T0 (.tup [.ref A0, .ref B0, .ref L0, .int 0])) T0 = some (.tup [.ref A0, .ref B0, .ref L0, .int 0]) := upd_same
    generalize upd H5 T0 (.tup [.ref A0, .ref B0, .ref L0, .int 0]) = H6 at s6 qT
    have s26 := (s4.trans s5).trans s6
    have s06 := s2.trans s26
    refine ⟨T0, _, rfl, SqT.of qT, rfl, _, _, rfl, _, _, rfl, _, _, rfl, _, _, rfl, rfl, ?_⟩
    refine ⟨_, rfl, _, _, rfl, rfl, _, rfl, by omega, by omega, ?_⟩
    have hbnd : ∀ y, 0 ≤ gets F y ∧ gets F y ≤ 1000 := fun y => gets_of (fun v => 0 ≤ v ∧ v ≤ 1000) ⟨by decide, by decide⟩ fun p hp => by have := bF p hp; omega
    refine for_src (Src.range (lo := 0) (n := ((last : Int) + 1).toNat)) (fun i σ H' => ∃ A1 B1 o8 o9 o10 o11 o12, σ = [some R, some (.ref ya), some (.ref za), some (.int last), some (.ref A1), some (.ref B1), some (.ref L0), some (.int (gapTo rows last (gets F) (isIn Ls) i)), o8, o9, o10, o11, o12, none, none, none] ∧ Same H H' ∧
      HeapT H' A1 (evH (gets F) (isIn Ls) i) (2 ^ i * 100) ∧ HandT H' B1 (evL (gets F) (isIn Ls) i) (2 ^ i * 100) ∧ PathsAt H' L0 last) ?_ ?_ ?_ ?_
    · refine ⟨A0, B0, none, none, none, none, none, ?_, s06, ⟨F, s26 _ _ qA, nF, fun _ => rfl, fun p hp => by have := bF p hp; omega, by omega⟩, ⟨Ls, (s5.trans s6) _ _ qB, nL, fun _ => rfl, by omega⟩, pa.same s6⟩
      rw [gapTo_zero]
      rfl
    · intro i σ H' _ _
      exact trivial
    · rintro i d x σ H7 H8 hi ⟨A1, B1, o8, o9, o10, o11, o12, rfl, s7, hA1, hB1, pa1⟩ s8 hx
      obtain ⟨hi1, rfl⟩ := range_get hi
      rw [Int.zero_add] at hx
      subst hx
      have hdl : d ≤ last := by omega
      have s08 := s7.trans s8
      obtain ⟨LA, qA1, nA, gA, pA, lA⟩ := hA1.same s8
      have hB8 := hB1.same s8
      have pa8 := pa1.same s8
      have hR8 := RowsIn.same hR s08
      have fo : ∀ r ∈ rows.filter (fun r => decide (r.2.1 = d)), r ∈ rows ∧ r.2.1 = d := fun r hr => ⟨(List.mem_filter.mp hr).1, of_decide_eq_true (List.mem_filter.mp hr).2⟩
      have fl : (rows.filter fun r => decide (r.2.1 = d)).length ≤ 40 := Nat.le_trans (List.length_filter_le _ _) lR
      obtain ⟨ra, J, G, rfl, S, hG, pick⟩ := hR8.src
      refine ⟨_, rfl, ra, J, rfl, pick, fun D hD => lc_src S (K := K) hD (fun (r : PRow) y H => Tp K H y (dR r)) (fun r => decide (r.2.1 = d)) hG (fun _ _ _ _ s h => Tp.stay s h) (by omega) (fun i r x H9 Q1 Q0 s9 hi hx k1 k0 => ?_) (fun H9 ys s9 hD9 hp9 => ?_)⟩
      · obtain ⟨q, rfl, hq⟩ := tpI_inv hx
        refine ⟨rfl, _, rfl, q, _, _, _, rfl, rfl, hq, rfl, _, rfl, rfl, _, rfl, ?_⟩
        by_cases hrd : r.2.1 = d
        · exact dT (congrArg V.int (by rw [hrd])) ⟨_, rfl, k1 (decide_eq_true hrd) _ _ (Same.refl _) hx⟩
        · exact dFa (fun e => hrd (by have := V.int.inj e; omega)) (k0 (decide_eq_false hrd) _ (Same.refl _))
      have s09 := s08.trans s9
      have hfl : ys.length = (rows.filter fun r => decide (r.2.1 = d)).length := (paired_len hp9).symm
      refine ⟨D, rfl, ⟨_, SqL.of hD9⟩, for_src (Src.pl (K := K) (a := D) (ys := ys) (ds := rows.filter fun r => decide (r.2.1 = d)) (R := fun (r : PRow) y H => Tp K H y (dR r))) (fun j σ H' => ∃ o9 o10 o11 o12, σ = [some (.ref ra), some (.ref ya), some (.ref za), some (.int last), some (.ref A1), some (.ref B1), some (.ref L0), some (.int (gapTo rows last (gets F) (isIn Ls) d + lsum (gterm last (gets F) (isIn Ls)) ((rows.filter fun r => decide (r.2.1 = d)).take j))), some (.int (d : Nat)), o9, o10, o11, o12, none, none, none] ∧ Same H9 H') ?_ ?_ ?_ ?_⟩
      · refine ⟨o9, o10, o11, o12, ?_, Same.refl _⟩
        show _ = [_, _, _, _, _, _, _, some (V.int (_ + 0)), _, _, _, _, _, _, _, _]
        rw [Int.add_zero]
        rfl
      · rintro j σ H' _ ⟨_, _, _, _, _, sj⟩
        exact ⟨sj.seq (SqL.of hD9), L2.Paired.mapP hp9 fun _ _ h => h.same sj⟩
      · rintro j r x σ Ha Hb hj ⟨p9, p10, p11, p12, rfl, sa⟩ sb hx
        obtain ⟨q, rfl, hq⟩ := tpI_inv hx
        have hrm := List.mem_of_getElem? hj
        obtain ⟨hr1, hr2⟩ := List.mem_filter.mp hrm
        have hrd : r.2.1 = d := of_decide_eq_true hr2
        obtain ⟨b1, b2, b3, b4, b5⟩ := bR r hr1
        have sHb := (s09.trans sa).trans sb
        have s8b := (s9.trans sa).trans sb
        refine ⟨q, _, rfl, hq, rfl, _, _, rfl, _, _, rfl, _, _, rfl, rfl, ?_⟩
        refine ⟨_, rfl, ya, rfl, ⟨_, same_t sHb y1⟩, fun D3 hD3 => lc_src (Src.tp (K := K) (f := dB) (l := F) (xs := yx)) (K := K) hD3 (fun p y _ => y = .int (p.2 * Nd.P r.2.1 (r.1 - p.1))) (fun _ => true) (fun H' s => ⟨same_t (sHb.trans s) y1, y2.same (sHb.trans s)⟩) (fun _ _ _ _ _ h => h) (by omega) (fun i p y Hc Q1 Q0 sc hi hy k1 _ => ?_) (fun Hc zs sc hDc hpc => ?_)⟩
        · obtain ⟨q2, rfl, hq2⟩ := tpI_inv hy
          refine ⟨q2, _, rfl, hq2, rfl, _, _, rfl, _, _, rfl, rfl, rfl, yes_ ⟨_, rfl, _, rfl, _, rfl, _, rfl, _, rfl, _, _, rfl, rfl, L0, last, r.2.1, r.1 - p.1, rfl, (pa8.same s8b).same sc, b1, _, _, rfl, rfl, .inr ?_, k1 rfl _ _ (Same.refl _) rfl⟩⟩
          have a1 := P_nonneg (k := r.2.1) (d := r.1 - p.1)
          have a2 := P_le (k := r.2.1) (d := r.1 - p.1)
          have a3 := two_last (show r.2.1 ≤ 6 by omega)
          omega
        · rw [List.filter_eq_self.mpr (by simp)] at hpc
          have e := paired_val (f := fun (p : Int × Int) => V.int (p.2 * Nd.P r.2.1 (r.1 - p.1))) hpc
          have e2 : zs = (F.map fun p => p.2 * Nd.P r.2.1 (r.1 - p.1)).map V.int := by rw [e, List.map_map]; rfl
          subst e2
          refine ⟨D3, _, rfl, SqL.of hDc, ?_⟩
          have em : (F.map fun p => p.2 * Nd.P r.2.1 (r.1 - p.1)).sum = meanS (gets F) r.1 r.2.1 := by
            rw [sum_lsum]
            exact mean_list nF fun p hp => by have := bF p hp; rw [wl_eq, wn_eq]; omega
          rw [em]
          have s8c := s8b.trans sc
          have qAc := s8c _ _ qA1
          have evb := ev_bound (h := gets F) (l := isIn Ls) (B := 1000) hbnd d r.1
          have two := two_last hl6
          have twd := two_last (show d ≤ 6 by omega)
          have e1 : (2 : Int) ^ ((last : Nat) : Int).toNat = 2 ^ last := by rw [Int.toNat_natCast]
          have e2 : (2 : Int) ^ (((last : Nat) : Int) - ((r.2.1 : Nat) : Int)).toNat = 2 ^ (last - r.2.1) := by congr 1; omega
          have tws := two_last (show last - r.2.1 ≤ 6 by omega)
          refine ⟨_, rfl, _, rfl, _, rfl, A1, rfl, isd_tab qAc, _, rfl, _, dg_tab qAc, _, rfl, _, _, getD_tab, rfl, ⟨by omega, by omega, ?_⟩, _, rfl, _, rfl, _, rfl, _, _, rfl, rfl, _, _, rfl, rfl, ⟨by omega, by omega, by decide⟩, _, _, rfl, rfl, .inr ?_, _, _, rfl, rfl, _, _, rfl, rfl, .inl (by omega), _, _, rfl, rfl, ?_⟩
          · rw [gA]
            omega
          · rw [e2]
            omega
          refine ⟨some (.int r.1), some (.int (r.2.1 : Nat)), some (.int r.2.2), some (.int (meanS (gets F) r.1 r.2.1)), ?_, (sa.trans sb).trans sc⟩
          have ev : gterm last (gets F) (isIn Ls) r = r.2.2 * (gets LA r.1 * 2 ^ ((last : Nat) : Int).toNat - meanS (gets F) r.1 r.2.1 * (1 * 2 ^ (((last : Nat) : Int) - ((r.2.1 : Nat) : Int)).toNat)) := by
            rw [e1, e2, gA, Int.one_mul, Int.mul_comm (evH (gets F) (isIn Ls) d r.1), Int.mul_comm (meanS (gets F) r.1 r.2.1), ← hrd]
          rw [lsum_take hj, ← Int.add_assoc, ev]
          rfl
      · rintro σ Ha ⟨p9, p10, p11, p12, rfl, sa⟩
        rw [List.take_length, ← gapTo_succ]
        have s8a := s9.trans sa
        have hA9 : HeapT Ha A1 (evH (gets F) (isIn Ls) d) (2 ^ d * 100) := HeapT.same ⟨LA, qA1, nA, gA, pA, lA⟩ s8a
        have pw : 2 ^ d ≤ 64 := by
          have := Nat.pow_le_pow_right (by decide : 0 < 2) (show d ≤ 6 by omega)
          omega
        refine ⟨_, rfl, _, rfl, A1, B1, _, _, _, _, rfl, hA9, hB8.same s8a, by omega, by omega, fun Tt A2 B2 Hb sb qTt hA2 hB2 => ?_⟩
        refine ⟨Tt, _, rfl, qTt, rfl, _, _, rfl, _, _, rfl, rfl, ?_⟩
        refine ⟨A2, B2, _, _, _, _, _, rfl, ((s09.trans sa).trans sb), ?_, ?_, (pa8.same s8a).same sb⟩
        · rw [show 2 ^ (d + 1) * 100 = 2 * (2 ^ d * 100) by rw [Nat.pow_succ]; omega]
          exact hA2
        · rw [show 2 ^ (d + 1) * 100 = 2 ^ d * 100 + 2 ^ d * 100 by rw [Nat.pow_succ]; omega]
          exact hB2
    · rintro σ H7 ⟨A1, B1, o8, o9, o10, o11, o12, rfl, s7, _⟩
      rw [List.length_range, show ((last : Int) + 1).toNat = last + 1 by omega, gapTo_all fun r hr => (bR r hr).1]
      exact ⟨_, rfl, k _ s7⟩
end
end Nw
namespace Nd
theorem chg_perm {a b : List Row} (p : a.Perm b) {last : Nat} {y : Int} {t : Nat} : chg a last y t = chg b last y t := lsum_perm p
theorem reach_perm {a b : List Row} (p : a.Perm b) {last : Nat} {c : Int} : Reach a last c = Reach b last c := by
  unfold Reach
  refine isum_congr fun y _ _ => ?_
  unfold bestAt
  refine best_congr fun j _ => ?_
  unfold chgs
  exact chg_perm p
end Nd
namespace Nw
open PySem PySem.Spec PyProof.Rows L2 Nd
/-- the last tick is one -/
theorem LookIs.last_eq {K : PySem.W.Frag} {H : Hp} {v : V} {rows : List PRow} {l m : Nat} {c : Int} (h : LookIs K H v rows l c) (h1 : ∀ r ∈ rows, r.2.1 ≤ m) (h2 : ∃ r ∈ rows, r.2.1 = m) : l = m := by
  obtain ⟨_, _, _, h3, r, h4, h5⟩ := h
  obtain ⟨q, h6, h7⟩ := h2
  have := h1 r h4
  have := h3 q h6
  omega
/-- what of a look's rows matters to the reach -/
structure Small (rows : List PRow) (last b W : Nat) (c : Int) : Prop where
  ok : RowsOk rows c
  b1 : b ≤ 31
  l6 : last ≤ 6
  c01 : c = 0 ∨ c = 1
  bd : ∀ r ∈ rows, -(b : Int) ≤ r.1 - r.2.1 ∧ r.1 + r.2.1 ≤ b
  lt : ∀ r ∈ rows, r.2.1 ≤ last
  w : ∀ r ∈ rows, -(W : Int) ≤ r.2.2 ∧ r.2.2 ≤ W
  w1 : W ≤ 100
  top : ∃ r ∈ rows, r.2.1 = last
theorem Small.perm {a b : List PRow} {last B W : Nat} {c : Int} (h : Small a last B W c) (p : b.Perm a) : Small b last B W c where
  ok := h.ok.perm p
  b1 := h.b1
  l6 := h.l6
  c01 := h.c01
  bd := fun r hr => h.bd r (p.mem_iff.mp hr)
  lt := fun r hr => h.lt r (p.mem_iff.mp hr)
  w := fun r hr => h.w r (p.mem_iff.mp hr)
  w1 := h.w1
  top := by
    obtain ⟨r, hr, e⟩ := h.top
    exact ⟨r, p.mem_iff.mpr hr, e⟩
theorem Small.near {a : List PRow} {last B W : Nat} {c : Int} (h : Small a last B W c) : Near B a last := fun r hr => by
  have := h.bd r hr
  have := h.lt r hr
  omega
theorem Small.reach {a : List PRow} {last B W : Nat} {c : Int} (h : Small a last B W c) : (Reach a last c).natAbs < 2 ^ 60 := by
  refine reach_abs (fun r hr => ?_) h.ok.len h.l6
  have := h.w r hr
  have := h.w1
  have := h.lt r hr
  omega
/-- a worst start, its heaps, its lefts -/
structure Best (b : Nat) (rows : List PRow) (last : Nat) (c : Int) (F : Heaps) (Ls : List Int) : Prop where
  m : WorstM b rows last c F Ls
  up : Ls.Pairwise (· < ·)
  lb : ∀ y ∈ Ls, -(b : Int) ≤ y ∧ y ≤ b
section
variable {b last : Nat} {rows : List PRow} {c : Int} {F : Heaps} {Ls : List Int}
theorem Best.bound (h : Best b rows last c F Ls) (hb : b ≤ 31) (hl : last ≤ 6) : (∀ p ∈ F, (1 ≤ p.2 ∧ p.2 ≤ 1000) ∧ -40 ≤ p.1 ∧ p.1 ≤ 40 ∧ p.1 % 2 = c) ∧ F.length ≤ 40 ∧ Ls.length ≤ 63 := by
  refine ⟨fun p hp => ?_, ?_, ?_⟩
  · obtain ⟨h1, h2, h3, h4, h5⟩ := h.m.fb p hp
    have : (2 : Int) ^ (last + 1) ≤ 128 := by
      have t := two_last hl
      rw [Int.pow_succ]
      omega
    omega
  · have := worst_len h.m
    omega
  · have := win_len (up_nd h.up) h.lb
    omega
theorem Best.hok (h : Best b rows last c F Ls) (hb : b ≤ 31) (hl : last ≤ 6) : HOk F := by
  obtain ⟨h1, h2, _⟩ := h.bound hb hl
  refine ⟨by omega, h.m.up, fun p hp => ?_⟩
  have := h1 p hp
  have hF : FAR = 1000000 := rfl
  have hC : CHIPS = 1000000000000000000000000000000000000000000000000000000000000 := rfl
  omega
theorem Best.lok (h : Best b rows last c F Ls) (hb : b ≤ 31) (hl : last ≤ 6) : LOk Ls := by
  obtain ⟨_, _, h1⟩ := h.bound hb hl
  refine ⟨by omega, up_nd h.up, fun p hp => ?_⟩
  have := h.lb p hp
  have hF : FAR = 1000000 := rfl
  omega
/-- what _law_gap asks -/
theorem Best.forGap (h : Best b rows last c F Ls) (hb : b ≤ 31) (hl : last ≤ 6) : (F.map (·.1)).Nodup ∧ (∀ p ∈ F, (1 ≤ p.2 ∧ p.2 ≤ 1000) ∧ -100 ≤ p.1 ∧ p.1 ≤ 100) ∧ F.length ≤ 100 ∧ Ls.Nodup ∧ Ls.length ≤ 100 := by
  obtain ⟨h1, h2, h3⟩ := h.bound hb hl
  exact ⟨h.m.up, fun p hp => by have := h1 p hp; omega, by omega, up_nd h.up, by omega⟩
theorem Small.forGap {W late : Nat} (h : Small rows last b W c) (hl : last ≤ late) : rows.length ≤ 40 ∧ ∀ r ∈ rows, r.2.1 ≤ late ∧ -100 ≤ r.2.2 ∧ r.2.2 ≤ 100 ∧ -40 ≤ r.1 ∧ r.1 ≤ 40 := by
  refine ⟨h.ok.len, fun r hr => ?_⟩
  have := h.bd r hr
  have := h.lt r hr
  have := h.w r hr
  have := h.w1
  have := h.b1
  omega
theorem Best.col (h : Best b rows last c F Ls) : Col (gets F) c := col_gets fun p hp => (h.m.fb p hp).2.2.1
theorem Best.gap (h : Best b rows last c F Ls) : gap2 rows last (gets F) (isIn Ls) = Reach rows last c := h.m.gap
/-- turned over -/
theorem gap_low {rowsS rowsL : List PRow} {F2 : Heaps} {L2 : List Int} {b2 : Nat} (p : rowsS.Perm (rowsL.map (scaleRow (-1)))) (h : Best b2 rowsS last c F2 L2) : gap2 rowsL last (gets F2) (isIn L2) = -(Reach rowsL last c) := by
  have g := h.gap
  rw [gap_perm p, reach_perm p] at g
  have e1 : gap2 (rowsL.map (scaleRow (-1))) last (gets F2) (isIn L2) = -1 * gap2 rowsL last (gets F2) (isIn L2) := gap_scale
  have e2 : Reach (rowsL.map (scaleRow (-1))) last c = Reach rowsL last c := reach_neg
  rw [e1, e2] at g
  omega
theorem gap_three {rowsS rowsL : List PRow} {b2 : Nat} (p : rowsS.Perm (rowsL.map (scaleRow 3))) (h : gap2 rowsL last (gets F) (isIn Ls) = Reach rowsL last c) : gap2 rowsS last (gets F) (isIn Ls) = Reach rowsS last c := by
  rw [gap_perm p, reach_perm p]
  have e1 : gap2 (rowsL.map (scaleRow 3)) last (gets F) (isIn Ls) = 3 * gap2 rowsL last (gets F) (isIn Ls) := gap_scale
  have e2 : Reach (rowsL.map (scaleRow 3)) last c = 3 * Reach rowsL last c := reach_mul (by decide)
  rw [e1, e2, h]
theorem lookI_moved {k y : Int} : ∀ {F : Tab}, lookI (F.map fun p => (p.1 + k, p.2)) y = lookI F (y - k)
  | [] => rfl
  | p :: F => by
    rw [List.map_cons]
    unfold lookI
    have ih := lookI_moved (k := k) (y := y) (F := F)
    by_cases e : p.1 = y - k
    · rw [if_pos e, if_pos (by show p.1 + k = y; omega)]
    · rw [if_neg e, if_neg (by show ¬ p.1 + k = y; omega), ih]
theorem gets_moved {k : Int} {F : Tab} : gets (F.map fun p => (p.1 + k, p.2)) = fun y => gets F (y - k) := by
  funext y
  unfold gets
  rw [lookI_moved]
theorem isIn_moved {k : Int} {Ls : List Int} : isIn (Ls.map fun y => y + k) = fun y => isIn Ls (y - k) := by
  funext y
  unfold isIn
  refine decide_eq_decide.mpr ⟨fun h => ?_, fun h => ?_⟩
  · obtain ⟨z, hz, e⟩ := List.mem_map.mp h
    have : z = y - k := by omega
    rw [← this]
    exact hz
  · exact List.mem_map.mpr ⟨y - k, h, by omega⟩
theorem gap_there {rowsM rowsL : List PRow} {W : Nat} {k : Int} (s : Small rowsL last b W c) (hb : b ≤ 20) (hk : k % 2 = 0) (hk2 : k.natAbs ≤ 8) (p : rowsM.Perm (rowsL.map (moveRow k))) (h : gap2 rowsL last (gets F) (isIn Ls) = Reach rowsL last c) :
    gap2 rowsM last (gets (F.map fun p => (p.1 + k, p.2))) (isIn (Ls.map fun y => y + k)) = Reach rowsM last c := by
  rw [gap_perm p, reach_perm p, gets_moved, isIn_moved]
  have l6 := s.l6
  have e1 : gap2 (rowsL.map (moveRow k)) last (fun y => gets F (y - k)) (fun y => isIn Ls (y - k)) = gap2 rowsL last (gets F) (isIn Ls) := gap_move s.near (by omega)
  have e2 : Reach (rowsL.map (moveRow k)) last c = Reach rowsL last c := reach_move hk s.near (by omega)
  rw [e1, e2, h]
theorem Best.there {k : Int} (h : Best b rows last c F Ls) (hb : b ≤ 31) (hl : last ≤ 6) (hk : k % 2 = 0) (hk2 : -8 ≤ k ∧ k ≤ 8) : HOk (F.map fun p => (p.1 + k, p.2)) ∧ LOk (Ls.map fun y => y + k) ∧ ∀ p ∈ F.map (fun p => (p.1 + k, p.2)), p.1 % 2 = c ∧ -200 ≤ p.1 ∧ p.1 ≤ 200 := by
  obtain ⟨h1, h2, h3⟩ := h.bound hb hl
  have hF : FAR = 1000000 := rfl
  have hC : CHIPS = 1000000000000000000000000000000000000000000000000000000000000 := rfl
  refine ⟨⟨by rw [List.length_map]; omega, ?_, fun q hq => ?_⟩, ⟨by rw [List.length_map]; omega, nodup_map (fun a b e => by omega) (up_nd h.up), fun q hq => ?_⟩, fun q hq => ?_⟩
  · have e : (F.map fun p => (p.1 + k, p.2)).map (·.1) = (F.map (·.1)).map fun y => y + k := by
      rw [List.map_map, List.map_map]
      rfl
    rw [e]
    exact nodup_map (fun a b e => by omega) h.m.up
  · obtain ⟨p, hp, rfl⟩ := List.mem_map.mp hq
    have := h1 p hp
    dsimp only
    omega
  · obtain ⟨y, hy, rfl⟩ := List.mem_map.mp hq
    have := h.lb y hy
    omega
  · obtain ⟨p, hp, rfl⟩ := List.mem_map.mp hq
    have := h1 p hp
    dsimp only
    omega
/-- of two laid together -/
theorem gap_within {W late : Nat} {rowsL : List PRow} (s : Small rowsL last b W c) (hl : last ≤ late) (hF : Col (gets F) c) : gap2 rowsL late (gets F) (isIn Ls) ≤ Reach rowsL last c * 2 ^ (late - last) ∧ -(Reach rowsL last c * 2 ^ (late - last)) ≤ gap2 rowsL late (gets F) (isIn Ls) := by
  have l6 := s.l6
  have b1 := s.b1
  obtain ⟨g1, g2⟩ := gap_le (l := isIn Ls) s.near (by omega) s.c01 hF
  rw [gap_later s.lt hl]
  have p := two_pow_pos (late - last)
  rw [Int.mul_comm (Reach rowsL last c)]
  have m1 := Int.mul_le_mul_of_nonneg_left g1 (Int.le_of_lt p)
  have m2 := Int.mul_le_mul_of_nonneg_left g2 (Int.le_of_lt p)
  rw [Int.mul_neg] at m2
  exact ⟨m1, m2⟩
end
end Nw
namespace Nw
open PySem PySem.Spec PyProof.Rows L2 Nd
theorem sl_tupK {X : Cx} {K : PySem.W.Frag} (hk : X.K = K) : SlR X (rSlT K) := by
  subst hk
  exact sl_tup
theorem op_inDK {X : Cx} {K : PySem.W.Frag} (hk : X.K = K) (hu : X.A.units + 65 < cLine) : OpR X (compareOp .In) (rInD K) := by
  subst hk
  exact op_inD hu
theorem pi_listK {X : Cx} {K : PySem.W.Frag} {tg l : Expr} {tl : TE} (hk : X.K = K) (hl : PE X l tl) : PI X tg l (iList K tl) := by
  subst hk
  exact pi_list hl
/-- a drawn row, a great weight changed -/
def fixW (v : Int) (r : PRow) : PRow := (r.1, r.2.1, if (if r.2.2 < 0 then -r.2.2 else r.2.2) < 1000 then r.2.2 else v)
theorem fixW_key {v : Int} {r : PRow} : rowKey (fixW v r) = rowKey r := rfl
theorem fixW_w {v : Int} {r : PRow} (hv : -7 ≤ v ∧ v ≤ 7 ∧ v ≠ 0) (h : r.2.2 ∈ ([1, 1, -1, 2, -3, 1000000] : List Int)) : -7 ≤ (fixW v r).2.2 ∧ (fixW v r).2.2 ≤ 7 ∧ (fixW v r).2.2 ≠ 0 := by
  unfold fixW
  simp only [List.mem_cons, List.not_mem_nil, or_false] at h
  rcases h with h | h | h | h | h | h <;> rw [h] <;> simp <;> omega
theorem paired_mapL {α β γ : Type} {F : β → γ → Prop} {f : α → β} : ∀ {l : List α} {m : List γ}, Paired (fun a c => F (f a) c) l m → Paired F (l.map f) m
  | _, _, .nil => .nil
  | _, _, .cons h t => .cons h (paired_mapL t)
/-- drawn rows, great weights changed, moved by d -/
def shW (v d : Int) (r : PRow) : PRow := ((fixW v r).1 + d, (fixW v r).2.1, (fixW v r).2.2)
theorem Drawn.small {rows : List PRow} {most last : Nat} {c c2 v d : Int} (dr : Drawn rows most last c2) (h0 : 0 < most) (h3 : most ≤ 3) (l6 : last ≤ 6) (hv : -7 ≤ v ∧ v ≤ 7 ∧ v ≠ 0) (hd : 0 ≤ d ∧ d ≤ 1) (hc : (c2 + d) % 2 = c) : Small (rows.map (shW v d)) last 14 7 c where
  ok := {
    ne := fun e => by
      obtain ⟨r, hr, _⟩ := dr.top h0
      rw [List.map_eq_nil_iff.mp e] at hr
      cases hr
    len := by
      have := dr.len
      rw [List.length_map]
      omega
    nd := by
      have e : (rows.map (shW v d)).map rowKey = (rows.map rowKey).map fun k : Int × Nat => (k.1 + d, k.2) := by
        rw [List.map_map, List.map_map]
        rfl
      rw [e]
      exact nodup_map (fun a b h => by
        have h1 := congrArg (·.1) h
        have h2 := congrArg (·.2) h
        dsimp only at h1 h2
        exact Prod.ext (by omega) h2) dr.nd
    bd := fun q hq => by
      obtain ⟨r, hr, rfl⟩ := List.mem_map.mp hq
      obtain ⟨b1, b2, b3⟩ := dr.bd r hr
      obtain ⟨w1, w2, w3⟩ := fixW_w hv b3
      have hF : FAR = 1000000 := rfl
      have hM : MW = 1000000 := rfl
      have e1 : (shW v d r).1 = r.1 + d := rfl
      have e2 : (shW v d r).2.1 = r.2.1 := rfl
      have e3 : (shW v d r).2.2 = (fixW v r).2.2 := rfl
      rw [e1, e2, e3, hF, hM]
      refine ⟨⟨by omega, by omega⟩, by omega, ⟨by omega, by omega⟩, w3⟩
    col := fun q hq => by
      obtain ⟨r, hr, rfl⟩ := List.mem_map.mp hq
      have := dr.col r hr
      show (r.1 + d + (r.2.1 : Nat)) % 2 = c
      omega }
  b1 := by decide
  l6 := l6
  c01 := by omega
  bd := fun q hq => by
    obtain ⟨r, hr, rfl⟩ := List.mem_map.mp hq
    obtain ⟨b1, b2, b3⟩ := dr.bd r hr
    show _ ≤ r.1 + d - (r.2.1 : Nat) ∧ r.1 + d + (r.2.1 : Nat) ≤ _
    omega
  lt := fun q hq => by
    obtain ⟨r, hr, rfl⟩ := List.mem_map.mp hq
    exact (dr.bd r hr).2.1
  w := fun q hq => by
    obtain ⟨r, hr, rfl⟩ := List.mem_map.mp hq
    obtain ⟨b1, b2, b3⟩ := dr.bd r hr
    obtain ⟨w1, w2, w3⟩ := fixW_w hv b3
    show _ ≤ (fixW v r).2.2 ∧ (fixW v r).2.2 ≤ _
    omega
  w1 := by decide
  top := by
    obtain ⟨r, hr, e⟩ := dr.top h0
    exact ⟨_, List.mem_map.mpr ⟨r, hr, rfl⟩, e⟩
theorem shW_0 {v : Int} {rows : List PRow} : rows.map (shW v 0) = rows.map (fixW v) := by
  refine List.map_congr_left fun r _ => ?_
  unfold shW
  rw [Int.add_zero]
theorem Small.scale {rows : List PRow} {last b : Nat} {c k : Int} (h : Small rows last b 7 c) (hk : k = -1 ∨ k = 3) : Small (rows.map (scaleRow k)) last b 21 c where
  ok := {
    ne := fun e => h.ok.ne (List.map_eq_nil_iff.mp e)
    len := by rw [List.length_map]; exact h.ok.len
    nd := by
      rw [List.map_map]
      exact h.ok.nd
    bd := fun q hq => by
      obtain ⟨r, hr, rfl⟩ := List.mem_map.mp hq
      obtain ⟨b1, b2, b3, b4⟩ := h.ok.bd r hr
      have hw := h.w r hr
      have hM : MW = 1000000 := rfl
      refine ⟨b1, b2, ?_⟩
      show (-MW ≤ r.2.2 * k ∧ r.2.2 * k ≤ MW) ∧ r.2.2 * k ≠ 0
      rcases hk with rfl | rfl <;> omega
    col := fun q hq => by
      obtain ⟨r, hr, rfl⟩ := List.mem_map.mp hq
      exact h.ok.col r hr }
  b1 := h.b1
  l6 := h.l6
  c01 := h.c01
  bd := fun q hq => by
    obtain ⟨r, hr, rfl⟩ := List.mem_map.mp hq
    exact h.bd r hr
  lt := fun q hq => by
    obtain ⟨r, hr, rfl⟩ := List.mem_map.mp hq
    exact h.lt r hr
  w := fun q hq => by
    obtain ⟨r, hr, rfl⟩ := List.mem_map.mp hq
    have := h.w r hr
    show _ ≤ r.2.2 * k ∧ r.2.2 * k ≤ _
    rcases hk with rfl | rfl <;> omega
  w1 := by decide
  top := by
    obtain ⟨r, hr, e⟩ := h.top
    exact ⟨_, List.mem_map.mpr ⟨r, hr, rfl⟩, e⟩
theorem Small.move {rows : List PRow} {last : Nat} {c k : Int} (h : Small rows last 14 7 c) (hk : k % 2 = 0) (hk2 : -8 ≤ k ∧ k ≤ 8) : Small (rows.map (moveRow k)) last 22 7 c where
  ok := {
    ne := fun e => h.ok.ne (List.map_eq_nil_iff.mp e)
    len := by rw [List.length_map]; exact h.ok.len
    nd := by
      have e : (rows.map (moveRow k)).map rowKey = (rows.map rowKey).map fun q : Int × Nat => (q.1 + k, q.2) := by
        rw [List.map_map, List.map_map]
        rfl
      rw [e]
      exact nodup_map (fun a b h => by
        have h1 := congrArg (·.1) h
        have h2 := congrArg (·.2) h
        dsimp only at h1 h2
        exact Prod.ext (by omega) h2) h.ok.nd
    bd := fun q hq => by
      obtain ⟨r, hr, rfl⟩ := List.mem_map.mp hq
      obtain ⟨b1, b2, b3, b4⟩ := h.ok.bd r hr
      have hb := h.bd r hr
      have hF : FAR = 1000000 := rfl
      refine ⟨?_, b2, b3, b4⟩
      show -FAR ≤ r.1 + k ∧ r.1 + k ≤ FAR
      omega
    col := fun q hq => by
      obtain ⟨r, hr, rfl⟩ := List.mem_map.mp hq
      have := h.ok.col r hr
      show (r.1 + k + (r.2.1 : Nat)) % 2 = c
      omega }
  b1 := by decide
  l6 := h.l6
  c01 := h.c01
  bd := fun q hq => by
    obtain ⟨r, hr, rfl⟩ := List.mem_map.mp hq
    have hb := h.bd r hr
    show _ ≤ r.1 + k - (r.2.1 : Nat) ∧ r.1 + k + (r.2.1 : Nat) ≤ _
    omega
  lt := fun q hq => by
    obtain ⟨r, hr, rfl⟩ := List.mem_map.mp hq
    exact h.lt r hr
  w := fun q hq => by
    obtain ⟨r, hr, rfl⟩ := List.mem_map.mp hq
    exact h.w r hr
  w1 := h.w1
  top := by
    obtain ⟨r, hr, e⟩ := h.top
    exact ⟨_, List.mem_map.mpr ⟨r, hr, rfl⟩, e⟩
theorem Best.forShow {b last : Nat} {rows : List PRow} {c : Int} {F : Heaps} {Ls : List Int} (h : Best b rows last c F Ls) (hb : b ≤ 31) (hl : last ≤ 6) : ∀ p ∈ F, p.1 % 2 = c ∧ -200 ≤ p.1 ∧ p.1 ≤ 200 := fun p hp => by
  have := (h.bound hb hl).1 p hp
  omega
theorem Brz.noTup {K : PySem.W.Frag} {H : Hp} {B : Addr} {n : Nat} (h : Brz K H B n) : noTup (H B) = true := by
  obtain ⟨C, cs, a, r, h1, _⟩ := h
  rw [h1]
  rfl
theorem Brz.notB {K : PySem.W.Frag} {H : Hp} {B a C dx : Addr} {n : Nat} {fs : List (Str × V)} (h : Brz K H B n) (e : H a = some (.ins C dx fs)) : a ≠ B := fun z => by
  obtain ⟨C', cs, a', r, h1, _⟩ := h
  rw [z, h1] at e
  cases e
theorem LookIs.sx {K : PySem.W.Frag} {H H' : Hp} {B : Addr} {n : Nat} {v : V} {rows : List PRow} {l : Nat} {c : Int} (h : LookIs K H v rows l c) (s : SameX B H H') (hb : Brz K H B n) : LookIs K H' v rows l c := by
  obtain ⟨⟨a, dx, t, e, h1, h2⟩, r⟩ := h
  exact ⟨⟨a, dx, t, e, s _ _ (hb.notB h1) h1, Tp.stay (s.stayN hb.noTup) h2⟩, r⟩
theorem WorstAt.sx {K : PySem.W.Frag} {H H' : Hp} {B x : Addr} {n : Nat} {F : Heaps} {Ls : List Int} (h : WorstAt K H x F Ls) (s : SameX B H H') (hb : Brz K H B n) : WorstAt K H' x F Ls := by
  obtain ⟨dx, t, y, z, h1, h2, h3⟩ := h
  exact ⟨dx, t, y, z, s _ _ (hb.notB h1) h1, Tp.stay (s.stayN hb.noTup) h2, Tp.stay (s.stayN hb.noTup) h3⟩
theorem Small.append {ra rb : List PRow} {la lb b W : Nat} {c : Int} (h : Small ra la b W c) (g : Small rb lb b W c) (dis : ∀ p ∈ ra, ∀ q ∈ rb, rowKey p ≠ rowKey q) (hl : ra.length + rb.length ≤ 40) : Small (ra ++ rb) (max la lb) b W c where
  ok := {
    ne := by
      have := h.ok.ne
      simp [this]
    len := by rw [List.length_append]; exact hl
    nd := by
      rw [List.map_append, List.nodup_append]
      refine ⟨h.ok.nd, g.ok.nd, fun x hx y hy => ?_⟩
      obtain ⟨r, hr, rfl⟩ := List.mem_map.mp hx
      obtain ⟨q, hq, rfl⟩ := List.mem_map.mp hy
      exact dis r hr q hq
    bd := fun r hr => (List.mem_append.mp hr).elim (h.ok.bd r) (g.ok.bd r)
    col := fun r hr => (List.mem_append.mp hr).elim (h.ok.col r) (g.ok.col r) }
  b1 := h.b1
  l6 := by
    have := h.l6
    have := g.l6
    omega
  c01 := h.c01
  bd := fun r hr => (List.mem_append.mp hr).elim (h.bd r) (g.bd r)
  lt := fun r hr => (List.mem_append.mp hr).elim (fun z => by have := h.lt r z; omega) (fun z => by have := g.lt r z; omega)
  w := fun r hr => (List.mem_append.mp hr).elim (h.w r) (g.w r)
  w1 := h.w1
  top := by
    by_cases e : lb ≤ la
    · obtain ⟨r, hr, e1⟩ := h.top
      exact ⟨r, List.mem_append_left _ hr, by omega⟩
    · obtain ⟨r, hr, e1⟩ := g.top
      exact ⟨r, List.mem_append_right _ hr, by omega⟩
abbrev dKey (r : PRow) : PyData := dI [r.1, (r.2.1 : Nat)]
theorem key_eqv {q r : PRow} : PyData.eqv (dKey q) (dKey r) = decide (rowKey q = rowKey r) := by
  show ((q.1 == r.1) && ((((q.2.1 : Nat) : Int) == ((r.2.1 : Nat) : Int)) && true)) = _
  by_cases h : rowKey q = rowKey r
  · have h1 : q.1 = r.1 := congrArg (·.1) h
    have h2 : q.2.1 = r.2.1 := congrArg (·.2) h
    rw [decide_eq_true h, h1, h2]
    simp
  · rw [decide_eq_false h]
    by_cases h1 : q.1 = r.1
    · have h2 : ¬ ((q.2.1 : Nat) : Int) = ((r.2.1 : Nat) : Int) := fun e => h (Prod.ext h1 (by show q.2.1 = r.2.1; omega))
      simp [h2]
    · simp [h1]
theorem keys_any {rows : List PRow} {r : PRow} : (rows.map dKey).any (fun z => PyData.eqv z (dKey r)) = decide (∃ q ∈ rows, rowKey q = rowKey r) := by
  rw [List.any_map]
  by_cases h : ∃ q ∈ rows, rowKey q = rowKey r
  · rw [decide_eq_true h]
    obtain ⟨q, hq, e⟩ := h
    exact List.any_eq_true.mpr ⟨q, hq, by show PyData.eqv (dKey q) (dKey r) = true; rw [key_eqv, decide_eq_true e]⟩
  · rw [decide_eq_false h]
    refine List.any_eq_false.mpr fun q hq => ?_
    show ¬ PyData.eqv (dKey q) (dKey r) = true
    rw [key_eqv, decide_eq_false (fun e => h ⟨q, hq, e⟩)]
    decide
theorem canLay_keys : ∀ rows : List PRow, PyData.canLayAll0 (rows.map dKey) = true
  | [] => by simp only [List.map_nil, PyData.canLayAll0]
  | r :: rows => by
    rw [List.map_cons]
    simp only [PyData.canLayAll0]
    rw [canLay_keys rows]
    have : PyData.canLay0 (dKey r) = true := by
      unfold dKey dI
      simp only [PyData.canLay0]
      exact canLay_ints _
    rw [this]
    rfl
theorem depth_keys : ∀ rows : List PRow, PyData.depthAll (rows.map dKey) ≤ 1
  | [] => by simp only [List.map_nil, PyData.depthAll]; omega
  | r :: rows => by
    rw [List.map_cons]
    simp only [PyData.depthAll]
    have h := depth_keys rows
    have : PyData.depth (dKey r) = 1 := by
      unfold dKey dI
      simp only [PyData.depth]
      rw [depth_ints]
    rw [this]
    omega
theorem shaped_keys (rows : List PRow) : SeqAt.shaped (.list (rows.map dKey)) = true := by
  unfold SeqAt.shaped
  refine Bool.and_eq_true_iff.mpr ⟨?_, decide_eq_true ?_⟩
  · simp only [PyData.canLay0]
    exact canLay_keys rows
  · simp only [PyData.depth]
    have := depth_keys rows
    omega
theorem cut2 {a b c : V} : cutV [a, b, c] none (some 2) = [a, b] := rfl
theorem cut2n : ¬ (HT.sIx 3 0 none = 0 ∧ HT.sIx 3 3 (some 2) = 3) := by decide
theorem at_int {Q : VK} {x y : Int} {H : Hp} (e : x = y) (h : Q (.int y) H) : Q (.int x) H := by rw [e]; exact h
/-- what the law has of the first look -/
structure E1 (K : PySem.W.Frag) (H : Hp) (B RH : Addr) (ys1 : List V) (rows1 : List PRow) (vL : V) (rowsL : List PRow) (last : Nat) (c : Int) (xT : Addr) (F : Heaps) (Ls : List Int) (n : Nat) : Prop where
  hb : Brz K H B n
  hys : H RH = some (.lst ys1)
  hne : RH ≠ B
  hp : Paired (fun d y => isR K d y H) rows1 ys1
  li : LookIs K H vL rowsL last c
  wt : WorstAt K H xT F Ls
section
variable {K : PySem.W.Frag} {H H' : Hp} {B RH : Addr} {ys1 : List V} {rows1 : List PRow} {vL : V} {rowsL : List PRow} {last : Nat} {c : Int} {xT : Addr} {F : Heaps} {Ls : List Int} {n m : Nat}
theorem E1.same (e : E1 K H B RH ys1 rows1 vL rowsL last c xT F Ls n) (s : Same H H') : E1 K H' B RH ys1 rows1 vL rowsL last c xT F Ls n where
  hb := e.hb.same s
  hys := s _ _ e.hys
  hne := e.hne
  hp := L2.Paired.mapP e.hp fun d y h => isR_stay d y _ _ (.same s) h
  li := e.li.same s
  wt := e.wt.same s
theorem E1.sx (e : E1 K H B RH ys1 rows1 vL rowsL last c xT F Ls n) (s : SameX B H H') (h : Brz K H' B m) : E1 K H' B RH ys1 rows1 vL rowsL last c xT F Ls m where
  hb := h
  hys := s _ _ e.hne e.hys
  hne := e.hne
  hp := L2.Paired.mapP e.hp fun d y h => isR_stay d y _ _ (s.stayN e.hb.noTup) h
  li := e.li.sx s e.hb
  wt := e.wt.sx s e.hb
theorem E1.rows (e : E1 K H B RH ys1 rows1 vL rowsL last c xT F Ls n) : RowsIn K H (.ref RH) rows1 := .inr ⟨RH, ys1, rfl, SqL.of e.hys, tpAll_R e.hp⟩
end
section
variable {P : Program} {w : World} {K : PySem.W.Frag} {mg : Str → Option Value} {base : Heap}
abbrev N_law : List Str := ["_law_script", "_law_breeze_here", "_law_last", "_law_rows_here", "_law_look", "_law_told", "_law_reach", "_law_low", "_law_spots", "_law_moved", "_law_there", "_law_other", "_law_second", "_law_both", "_law_late", "_law_far", "_law_most", "_law_parts", "_law_own", "_law_least", "_law_spot", "_law_tick", "_law_weight", "_law_many", "_law_row", "_law_each"]
theorem sc_law : FnScope N_law ["_law_script"] (defScope s_law) := ⟨rfl, rfl, rfl, by decide +kernel, rfl, by decide +kernel, by decide +kernel⟩
def sp_law (K : PySem.W.Frag) : Sp := fun vs H Q _ => ∃ (a : Addr) (ns : List Int), vs = [.ref a] ∧ SqL K H a (ns.map V.int) ∧ ns.length ≤ 63 ∧ ∀ H', Q (.bl true) H'
theorem F_law (T2 : Tx2 P K mg) {fd : FuncData} (F : FunD K "law" "law" (defArgs s_law) (defBody s_law) (defScope s_law) [] [] (He.ga K "law") fd) : FnOk P w K mg base CX0 20 (He.ga K "law") fd ["_law_script"] (sp_law K) := by
  have T := T2.toTx
  have O_law_breeze := O_law_breeze (P := P) (w := w) (base := base) T
  have O_law_puff := O_law_puff (P := P) (w := w) (base := base) T
  have O_law_one := O_law_one (P := P) (w := w) (base := base) T
  have O_law_rows := O_law_rows (P := P) (w := w) (base := base) T
  have O_law_gap := O_law_gap (P := P) (w := w) (base := base) T
  have O_law_is := O_law_is (P := P) (w := w) (base := base) T
  have O_Look_init := O_Look_init (P := P) (w := w) (base := base) T
  have O_worst_start := O_worst_start (P := P) (w := w) (base := base) T2
  have O_reach_of := O_reach_of (P := P) (w := w) (base := base) T
  have O_scaled_look := O_scaled_look (P := P) (w := w) (base := base) T
  have O_moved_look := O_moved_look (P := P) (w := w) (base := base) T
  have O_joined_looks := O_joined_looks (P := P) (w := w) (base := base) T
  have O_shows_worst := O_shows_worst (P := P) (w := w) (base := base) T
  have O_Worst_init := O_Worst_init (P := P) (w := w) (base := base) T2
  refine F.ok sc_law (fun vs H Q E h => ?_) (fun cdv A outer s H vs Q E hr h => ?_)
  · obtain ⟨a, ns, rfl, _⟩ := h; rfl
  · obtain ⟨a, ns, rfl, ha, hl, k⟩ := h
    suffices g : ∃ t, PSs (cxOf CX0 P w K mg base N_law "law" (defScope s_law) (He.ga K "law") cdv A outer s H E).nox (defBody s_law) t ∧ t { nx := fun _ H' => Q .non H', rt := Q } (L2.start N_law [.ref a]) H from by
      obtain ⟨t, h1, h2⟩ := g
      exact ⟨t, PSs.nox h1, h2⟩
    have hr : Room 19 _ := hr
    have hu : _ + 65 < cLine := Nat.lt_of_le_of_lt (Nat.add_le_add_left (by decide : 65 ≤ 200) _) (Nat.lt_of_le_of_lt (Nat.add_le_add_right (Nat.le_add_right _ _) _) hr.un)
    refine ⟨_, (pss_cons (ps_set (i := 1) sc_law.nd rfl (.inl rfl) (pe_fn O_law_breeze (hr.mono (by decide)) T.g__law_breeze (pa_cons (pv 0) pa_nil)))
      (pss_cons (ps_set (i := 2) sc_law.nd rfl (.inl rfl) (pe_fn O_law_one (hr.mono (by decide)) T.g__law_one (pa_cons (pv 1) (pa_cons (pe_lst (pa_cons pe_int (pa_cons pe_int (pa_cons pe_int (pa_cons pe_int (pa_cons pe_int (pa_cons pe_int pa_nil))))))) pa_nil))))
      (pss_cons (ps_set (i := 3) sc_law.nd rfl (.inr rfl) (pe_lc (own := [("_law_spot", 20), ("_law_tick", 21), ("_law_weight", 22)]) rfl sc_law.nd (pi_list (pe_fn O_law_rows (hr.mono (by decide)) T.g__law_rows (pa_cons (pv 1) (pa_cons pe_int (pa_cons (pv 2) pa_nil))))) (blkOk_by (N := N_law) (sc := defScope s_law) (by decide +kernel)) (fun _ _ _ _ _ => (pg_tupK (K := K) (n := 3) rfl rfl (pgs_cons (pg_name (i := 20) sc_law.nd rfl (.inl rfl) (by first | exact .inl rfl | exact .inr rfl)) (pgs_cons (pg_name (i := 21) sc_law.nd rfl (.inl rfl) (by first | exact .inl rfl | exact .inr rfl)) (pgs_cons (pg_name (i := 22) sc_law.nd rfl (.inl rfl) (by first | exact .inl rfl | exact .inr rfl)) pgs_nil))))) (fun _ _ _ _ _ => pts_nil) (fun _ _ _ _ _ => (pe_tup (pa_cons (pv 20) (pa_cons (pv 21) (pa_cons (pe_ifExp (pt_cmpR op_lt (pe_callB call_abs (by rfl) T.z_abs (by decide +kernel) (pa_cons (pv 22) pa_nil)) pe_int (nomark _)) (pv 22) pe_int) pa_nil)))))))
      (pss_cons (ps_set (i := 4) sc_law.nd rfl (.inl rfl) (pe_mk O_Look_init T.k_Look (hr.mono (by decide)) T.g_Look (pa_cons (pv 3) pa_nil)))
      (pss_cons (ps_set (i := 5) sc_law.nd rfl (.inl rfl) (pe_fn O_worst_start (hr.mono (by decide)) T.g_worst_start (pa_cons (pv 4) pa_nil)))
      (pss_cons (ps_set (i := 6) sc_law.nd rfl (.inl rfl) (pe_fn O_law_gap (hr.mono (by decide)) T.g__law_gap (pa_cons (pv 3) (pa_cons (pe_fld (pv 5) rfl) (pa_cons (pe_fld (pv 5) rfl) (pa_cons (pv 2) pa_nil))))))
      (pss_cons (ps_if (pt_not (pt_val (pe_fn O_law_is (hr.mono (by decide)) T.g__law_is (pa_cons (pe_fn O_reach_of (hr.mono (by decide)) T.g_reach_of (pa_cons (pv 4) pa_nil)) (pa_cons (pv 6) (pa_cons (pv 2) pa_nil))))))
      (pss_one (ps_ret pe_bl))
      pss_nil)
      (pss_cons (ps_set (i := 7) sc_law.nd rfl (.inl rfl) (pe_fn O_worst_start (hr.mono (by decide)) T.g_worst_start (pa_cons (pe_fn O_scaled_look (hr.mono (by decide)) T.g_scaled_look (pa_cons (pv 4) (pa_cons (pe_un un_neg pe_int) pa_nil))) pa_nil)))
      (pss_cons (ps_if (PW.pt (pw_or (pt_cmpR op_ne (pe_fn O_law_gap (hr.mono (by decide)) T.g__law_gap (pa_cons (pv 3) (pa_cons (pe_fld (pv 7) rfl) (pa_cons (pe_fld (pv 7) rfl) (pa_cons (pv 2) pa_nil))))) (pe_un un_neg (pv 6)) (nomark _)) (pw_or1 (pt_cmpR op_ne (pe_callB call_repr_bl (by rfl) T.z_repr (by decide +kernel) (pa_cons (pe_fn O_shows_worst (hr.mono (by decide)) T.g_shows_worst (pa_cons (pv 4) (pa_cons (pv 7) pa_nil))) pa_nil)) (pe_callB call_repr_bl (by rfl) T.z_repr (by decide +kernel) (pa_cons (pe_cmpR op_eq (pv 6) pe_int (nomark _)) pa_nil)) (nomark _)))))
      (pss_one (ps_ret pe_bl))
      pss_nil)
      (pss_cons (ps_set (i := 8) sc_law.nd rfl (.inr rfl) (pe_op op_sub (pe_op op_mul pe_int (pe_fn O_law_puff (hr.mono (by decide)) T.g__law_puff (pa_cons (pv 1) (pa_cons pe_int pa_nil)))) pe_int))
      (pss_cons (ps_par (i := 9) (j := 10) rfl sc_law.nd rfl rfl (by decide) rfl rfl (pa_cons (pe_fn O_moved_look (hr.mono (by decide)) T.g_moved_look (pa_cons (pv 4) (pa_cons (pv 8) (pa_cons pe_int pa_nil)))) (pa_cons (pe_mk O_Worst_init T.k_Worst (hr.mono (by decide)) T.g_Worst (pa_cons (pe_lc (own := [("_law_spot", 20), ("_law_many", 23)]) rfl sc_law.nd (pi_tup (pe_fld (pv 5) rfl)) (blkOk_by (N := N_law) (sc := defScope s_law) (by decide +kernel)) (fun _ _ _ _ _ => (pg_tupK (K := K) (n := 2) rfl rfl (pgs_cons (pg_name (i := 20) sc_law.nd rfl (.inl rfl) (by first | exact .inl rfl | exact .inr rfl)) (pgs_cons (pg_name (i := 23) sc_law.nd rfl (.inl rfl) (by first | exact .inl rfl | exact .inr rfl)) pgs_nil)))) (fun _ _ _ _ _ => pts_nil) (fun _ _ _ _ _ => (pe_tup (pa_cons (pe_op op_add (pv 20) (pv 8)) (pa_cons (pv 23) pa_nil))))) (pa_cons (pe_lc (own := [("_law_spot", 20)]) rfl sc_law.nd (pi_tup (pe_fld (pv 5) rfl)) (blkOk_by (N := N_law) (sc := defScope s_law) (by decide +kernel)) (fun _ _ _ _ _ => (pg_name (i := 20) sc_law.nd rfl (.inl rfl) (by first | exact .inl rfl | exact .inr rfl))) (fun _ _ _ _ _ => pts_nil) (fun _ _ _ _ _ => (pe_op op_add (pv 20) (pv 8)))) pa_nil))) pa_nil)) (by rfl))
      (pss_cons (ps_if (PW.pt (pw_or (pt_cmpR op_notBl (pe_fn O_shows_worst (hr.mono (by decide)) T.g_shows_worst (pa_cons (pv 9) (pa_cons (pv 10) pa_nil))) pe_bl (nomark _)) (pw_or1 (pt_cmpR op_notBl (pe_fn O_shows_worst (hr.mono (by decide)) T.g_shows_worst (pa_cons (pe_fn O_scaled_look (hr.mono (by decide)) T.g_scaled_look (pa_cons (pv 4) (pa_cons pe_int pa_nil))) (pa_cons (pv 5) pa_nil))) pe_bl (nomark _)))))
      (pss_one (ps_ret pe_bl))
      pss_nil)
      (pss_cons (ps_setLc (i := 11) (own := [("_law_spot", 20), ("_law_tick", 21), ("_law_weight", 22)]) rfl sc_law.nd rfl rfl (sw_true rfl rfl rfl (by decide +kernel)) (pi_list (pe_fn O_law_rows (hr.mono (by decide)) T.g__law_rows (pa_cons (pv 1) (pa_cons pe_int (pa_cons (pe_fn O_law_one (hr.mono (by decide)) T.g__law_one (pa_cons (pv 1) (pa_cons (pe_lst (pa_cons pe_int (pa_cons pe_int (pa_cons pe_int pa_nil)))) pa_nil))) pa_nil))))) (blkOk_by (N := N_law) (sc := defScope s_law) (by decide +kernel)) (fun _ _ _ _ _ => (pg_tupK (K := K) (n := 3) rfl rfl (pgs_cons (pg_name (i := 20) sc_law.nd rfl (.inl rfl) (by first | exact .inl rfl | exact .inr rfl)) (pgs_cons (pg_name (i := 21) sc_law.nd rfl (.inl rfl) (by first | exact .inl rfl | exact .inr rfl)) (pgs_cons (pg_name (i := 22) sc_law.nd rfl (.inl rfl) (by first | exact .inl rfl | exact .inr rfl)) pgs_nil))))) (fun _ _ _ _ _ => pts_nil) (fun _ _ _ _ _ => (pe_tup (pa_cons (pv 20) (pa_cons (pv 21) (pa_cons (pe_ifExp (pt_cmpR op_lt (pe_callB call_abs (by rfl) T.z_abs (by decide +kernel) (pa_cons (pv 22) pa_nil)) pe_int (nomark _)) (pv 22) (pe_un un_neg pe_int)) pa_nil))))))
      (pss_cons (ps_set (i := 12) sc_law.nd rfl (.inl rfl) (pe_mk O_Look_init T.k_Look (hr.mono (by decide)) T.g_Look (pa_cons (pe_lc (own := [("_law_spot", 20), ("_law_tick", 21), ("_law_weight", 22)]) rfl sc_law.nd (pi_list (pv 11)) (blkOk_by (N := N_law) (sc := defScope s_law) (by decide +kernel)) (fun _ _ _ _ _ => (pg_tupK (K := K) (n := 3) rfl rfl (pgs_cons (pg_name (i := 20) sc_law.nd rfl (.inl rfl) (by first | exact .inl rfl | exact .inr rfl)) (pgs_cons (pg_name (i := 21) sc_law.nd rfl (.inl rfl) (by first | exact .inl rfl | exact .inr rfl)) (pgs_cons (pg_name (i := 22) sc_law.nd rfl (.inl rfl) (by first | exact .inl rfl | exact .inr rfl)) pgs_nil))))) (fun _ _ _ _ _ => pts_nil) (fun _ _ _ _ _ => (pe_tup (pa_cons (pe_op op_add (pv 20) (pe_op op_mod (pe_callTy call_int1 (by rfl) T.z_int (by decide +kernel) (pa_cons (pe_op op_sub (pe_op op_sub (pe_op op_add (pv 20) (pv 21)) (pe_ix (ix_tupK (K := K) rfl) (pe_ix (ix_listK (K := K) rfl) (pv 3) pe_int (fun _ _ => rfl)) pe_int (fun _ _ => rfl))) (pe_ix (ix_tupK (K := K) rfl) (pe_ix (ix_listK (K := K) rfl) (pv 3) pe_int (fun _ _ => rfl)) pe_int (fun _ _ => rfl))) pa_nil)) pe_int)) (pa_cons (pv 21) (pa_cons (pv 22) pa_nil)))))) pa_nil)))
      (pss_cons (ps_if (pt_cmpR (op_neD hr.units) (pe_lc (own := [("_law_row", 24)]) rfl sc_law.nd (pi_tup (pe_fld (pv 12) rfl)) (blkOk_by (N := N_law) (sc := defScope s_law) (by decide +kernel)) (fun _ _ _ _ _ => (pg_name (i := 24) sc_law.nd rfl (.inl rfl) (by first | exact .inl rfl | exact .inr rfl))) (fun _ _ _ _ _ => (pts_one (pt_cmpR (op_inDK (K := K) rfl hu) (pe_slice (sl_tupK (K := K) rfl) (pv 24) po_none (po_some pe_int)) (pe_lc (own := [("_law_each", 25)]) rfl sc_law.nd ((pi_listK (K := K) rfl) (pv 3)) (blkOk_by (N := N_law) (sc := ({ kind := .function, names := [(".0", .local), ("_law_row", .local), ("_law_rows_here", .cell)], isGenerator := false, isCoroutine := false } : Scope)) (by decide +kernel)) (fun _ _ _ _ _ => (pg_name (i := 25) sc_law.nd rfl (.inl rfl) (by first | exact .inl rfl | exact .inr rfl))) (fun _ _ _ _ _ => pts_nil) (fun _ _ _ _ _ => (pe_slice (sl_tupK (K := K) rfl) (pv 25) po_none (po_some pe_int)))) (by rfl)))) (fun _ _ _ _ _ => (pv 24))) (pe_lst pa_nil) (nomark _))
      (pss_one (ps_ret pe_bl))
      pss_nil)
      (pss_cons (ps_set (i := 13) sc_law.nd rfl (.inl rfl) (pe_fn O_joined_looks (hr.mono (by decide)) T.g_joined_looks (pa_cons (pv 4) (pa_cons (pv 12) pa_nil))))
      (pss_cons (ps_par (i := 14) (j := 15) rfl sc_law.nd rfl rfl (by decide) rfl rfl (pa_cons (pe_callB (call_max2 rfl) (by rfl) T.z_max (by decide +kernel) (pa_cons (pv 2) (pa_cons (pe_fld (pv 12) rfl) pa_nil))) (pa_cons (pe_fn O_worst_start (hr.mono (by decide)) T.g_worst_start (pa_cons (pv 13) pa_nil)) pa_nil)) (by rfl))
      (pss_cons (ps_set (i := 16) sc_law.nd rfl (.inl rfl) (pe_fn O_law_gap (hr.mono (by decide)) T.g__law_gap (pa_cons (pe_fld (pv 13) rfl) (pa_cons (pe_fld (pv 15) rfl) (pa_cons (pe_fld (pv 15) rfl) (pa_cons (pv 14) pa_nil))))))
      (pss_cons (ps_set (i := 17) sc_law.nd rfl (.inl rfl) (pe_lst (pa_cons (pe_fn O_law_gap (hr.mono (by decide)) T.g__law_gap (pa_cons (pv 3) (pa_cons (pe_fld (pv 15) rfl) (pa_cons (pe_fld (pv 15) rfl) (pa_cons (pv 14) pa_nil))))) (pa_cons (pe_fn O_law_gap (hr.mono (by decide)) T.g__law_gap (pa_cons (pe_fld (pv 12) rfl) (pa_cons (pe_fld (pv 15) rfl) (pa_cons (pe_fld (pv 15) rfl) (pa_cons (pv 14) pa_nil))))) pa_nil))))
      (pss_cons (ps_if (PW.pt (pw_or (pt_cmpR op_ne (pe_callB (cr_sum rfl) (by rfl) T.z_sum (by decide +kernel) (pa_cons (pv 17) pa_nil)) (pv 16) (nomark _)) (pw_or1 (pt_not (pt_val (pe_fn O_law_is (hr.mono (by decide)) T.g__law_is (pa_cons (pe_fn O_reach_of (hr.mono (by decide)) T.g_reach_of (pa_cons (pv 13) pa_nil)) (pa_cons (pv 16) (pa_cons (pv 14) pa_nil)))))))))
      (pss_one (ps_ret pe_bl))
      pss_nil)
      (pss_cons (ps_set (i := 18) sc_law.nd rfl (.inl rfl) (pe_fn O_worst_start (hr.mono (by decide)) T.g_worst_start (pa_cons (pv 12) pa_nil)))
      (pss_cons (ps_set (i := 19) sc_law.nd rfl (.inl rfl) (pe_fn O_law_gap (hr.mono (by decide)) T.g__law_gap (pa_cons (pe_fld (pv 12) rfl) (pa_cons (pe_fld (pv 18) rfl) (pa_cons (pe_fld (pv 18) rfl) (pa_cons (pv 14) pa_nil))))))
      (pss_one (ps_ret (pe_and (pe_cmpR op_le (pe_callB call_abs (by rfl) T.z_abs (by decide +kernel) (pa_cons (pe_ix ix_list (pv 17) pe_int (fun _ _ => rfl)) pa_nil)) (pe_op op_shl (pv 6) (pe_op op_sub (pv 14) (pv 2))) (nomark _)) (pe_and (pe_cmpR op_le (pe_callB call_abs (by rfl) T.z_abs (by decide +kernel) (pa_cons (pe_ix ix_list (pv 17) pe_int (fun _ _ => rfl)) pa_nil)) (pv 19) (nomark _)) (pe_one (pe_cmpR op_le (pv 16) (pe_op op_add (pe_op op_shl (pv 6) (pe_op op_sub (pv 14) (pv 2))) (pv 19)) (nomark _))))))))))))))))))))))))))))), ?_⟩
    refine ⟨_, rfl, a, ns, rfl, ha, hl, fun B H1 s1 hb1 => ?_⟩
    refine ⟨_, rfl, (by show 6 ≤ sizeLine; decide), fun S hS => ?_⟩
    have s2 : Same H1 (upd H1 S (.lst [.int 3, .int 4, .int 2, .int 5, .int 6, .int 1])) := same_new hS
    refine ⟨B, S, 0, [3, 4, 2, 5, 6, 1], rfl, hb1.same s2, by decide, upd_same, by simp, by decide, fun lr H3 sx3 hb3 hlast => ?_⟩
    obtain ⟨last, rfl, hl1, hl6⟩ : ∃ last : Nat, lr = (last : Int) ∧ 1 ≤ last ∧ last ≤ 6 := by
      simp only [List.mem_cons, List.not_mem_nil, or_false] at hlast
      exact ⟨lr.toNat, by omega, by omega, by omega⟩
    refine ⟨_, rfl, _, rfl, B, 1, 3, last, rfl, hb3, by decide, by decide, by decide, hl6, fun D0 H4 rows0 ys0 c sx4 hb4 hD0 hys0 hp0 dr0 c01 => ?_⟩
    have l03 := dr0.len
    refine ⟨D0, rfl, ⟨_, SqL.of hys0⟩, fun RH hRH => lc_src (Src.pl (K := K) (a := D0) (ys := ys0) (ds := rows0) (R := isR K)) (K := K) hRH (fun (r : PRow) y H => isR K (fixW 7 r) y H) (fun _ => true) (fun H' s => ⟨s.seq (SqL.of hys0), L2.Paired.mapP hp0 fun d y h => isR_stay d y _ _ (.same s) h⟩) (fun d y _ _ s h => isR_stay _ y _ _ s h) (by omega) (fun i r x H5 Q1 Q0 s5 hi hx k1 _ => ?_) (fun H5 ys1 s5 hys1 hp1 => ?_)⟩
    · obtain ⟨q, rfl, hq⟩ := hx
      refine ⟨q, _, rfl, SqT.of hq, rfl, _, _, rfl, _, _, rfl, _, _, rfl, rfl, rfl, yes_ ⟨_, rfl, _, rfl, _, rfl, _, rfl, _, _, rfl, rfl, _, rfl, ?_⟩⟩
      by_cases hw : (if r.2.2 < 0 then -r.2.2 else r.2.2) < 1000
      · refine dT hw ⟨_, rfl, (by show 3 ≤ sizeLine; decide), fun p hp => k1 rfl _ _ (same_new hp) ⟨p, rfl, ?_⟩⟩
        rw [upd_same]
        unfold fixW
        rw [if_pos hw]
      · refine dFa hw ⟨(by show 3 ≤ sizeLine; decide), fun p hp => k1 rfl _ _ (same_new hp) ⟨p, rfl, ?_⟩⟩
        rw [upd_same]
        unfold fixW
        rw [if_neg hw]
    rw [List.filter_eq_self.mpr (by simp)] at hp1
    have s15 : Same H4 H5 := s5
    have sm1 : Small (rows0.map (fixW 7)) last 14 7 c := by
      have := dr0.small (c := c) (v := 7) (d := 0) (by decide) (by decide) hl6 (by decide) (by decide) (by omega)
      rw [shW_0] at this
      exact this
    have hp5 : Paired (fun d y => isR K d y H5) (rows0.map (fixW 7)) ys1 := paired_mapL hp1
    have hb5 := hb4.same s5
    have l13 : (rows0.map (fixW 7)).length ≤ 3 := by rw [List.length_map]; exact l03
    generalize rows0.map (fixW 7) = rows1 at sm1 hp5 l13
    have hneR : RH ≠ B := hb4.at_ hRH
    clear hp1 hp0 hys0 dr0 l03 s15 hb4 sx4 hb3 sx3 s2 hb1 s1
    -- the look
    refine ⟨_, rfl, fun aL dxL haL hdxL hneL => ?_⟩
    have sn : Same H5 (upd (upd H5 dxL (.own aL)) aL (.ins (He.ga K "Look") dxL [])) := (same_new (o := .own aL) hdxL).trans (same_new (by rw [upd_ne (Ne.symm hneL)]; exact haL))
    refine ⟨aL, dxL, .ref RH, rows1, c, rfl, upd_same, Lp.same ⟨RH, ys1, rfl, SqL.of hys1, tpAll_R hp5⟩ sn, sm1.ok, fun H6 rowsL lastL sx6 pmL li6 => ⟨rfl, ?_⟩⟩
    have s6 : Same H5 H6 := fun b o e => sx6 b o (ne_of_none e haL) (sn _ _ e)
    have smL := sm1.perm pmL
    obtain rfl : last = lastL := (li6.last_eq smL.lt smL.top).symm
    -- its worst start
    refine ⟨_, rfl, .ref aL, rowsL, last, 14, c, rfl, li6, hl6, by decide, smL.bd, c01, fun xT H7 F Ls s7 wt7 wm up lb => ?_⟩
    have bT : Best 14 rowsL last c F Ls := ⟨wm, up, lb⟩
    have e7 : E1 K H7 B RH ys1 rows1 (.ref aL) rowsL last c xT F Ls 21 := ⟨(hb5.same s6).same s7, s7 _ _ (s6 _ _ hys1), hneR, L2.Paired.mapP hp5 fun d y h => isR_stay d y _ _ (.same (s6.trans s7)) h, li6.same s7, wt7⟩
    clear wm up lb wt7 sx6 sn hp5 hys1 hb5 s6 s7 li6
    obtain ⟨dxT, tT, yT, zT, hxT, tyT, tzT⟩ := e7.wt
    obtain ⟨q1, q2, q3, q4, q5⟩ := bT.forGap (by decide) hl6
    obtain ⟨r1, r2⟩ := sm1.forGap (Nat.le_refl last)
    refine ⟨_, rfl, _, rfl, xT, _, dxT, _, _, rfl, hxT, T.c_Worst, T.a_Worst_heaps, rfl, _, rfl, xT, _, dxT, _, _, rfl, hxT, T.c_Worst, T.a_Worst_lefts, rfl, _, rfl, .ref RH, yT, zT, rows1, F, Ls, last, rfl, e7.rows, tyT, tzT, q1, q2, q3, q4, q5, r1, r2, hl6, fun H8 s8 => ?_⟩
    have gT : gap2 rows1 last (gets F) (isIn Ls) = Reach rowsL last c := (gap_perm pmL.symm).trans bT.gap
    rw [gT]
    have e8 := e7.same s8
    clear hxT tyT tzT e7 q1 q2 q3 q4 q5
    refine ⟨_, rfl, .ref aL, rowsL, last, 14, c, rfl, e8.li, hl6, by decide, smL.bd, c01, fun z9 H9 s9 f9 => ⟨_, rfl, _, rfl, z9, _, last, rfl, f9, smL.reach, hl6, _, rfl, iteF ?_⟩⟩
    have e9 := e8.same s9
    -- the look turned over
    have smS := smL.scale (k := -1) (.inl rfl)
    refine ⟨_, rfl, _, rfl, .ref aL, -1, rowsL, last, c, rfl, e9.li, ⟨by decide, by decide⟩, by decide, smS.ok, fun zS H10 rowsS lastS s10 pmS liS => ?_⟩
    have smS' := smS.perm pmS
    obtain rfl : last = lastS := (liS.last_eq smS'.lt smS'.top).symm
    refine ⟨zS, rowsS, last, 14, c, rfl, liS, hl6, by decide, smS'.bd, c01, fun xW H11 F2 M2 s11 wtW wm up lb => ?_⟩
    have bW : Best 14 rowsS last c F2 M2 := ⟨wm, up, lb⟩
    have e11 := (e9.same s10).same s11
    clear wm up lb s8 s9 f9 e8 e9 s10 s11 liS smS'
    obtain ⟨dxW, tW, yW, zW, hxW, tyW, tzW⟩ := id wtW
    obtain ⟨q1, q2, q3, q4, q5⟩ := bW.forGap (by decide) hl6
    refine ⟨_, rfl, _, rfl, xW, _, dxW, _, _, rfl, hxW, T.c_Worst, T.a_Worst_heaps, rfl, _, rfl, xW, _, dxW, _, _, rfl, hxW, T.c_Worst, T.a_Worst_lefts, rfl, _, rfl, .ref RH, yW, zW, rows1, F2, M2, last, rfl, e11.rows, tyW, tzW, q1, q2, q3, q4, q5, r1, r2, hl6, fun H12 s12 => ?_⟩
    have gW0 : gap2 rowsL last (gets F2) (isIn M2) = -(Reach rowsL last c) := gap_low pmS bW
    have gW : gap2 rows1 last (gets F2) (isIn M2) = -(Reach rowsL last c) := (gap_perm pmL.symm).trans gW0
    rw [gW]
    refine ⟨_, rfl, _, rfl, rfl, _, rfl, ?_⟩
    rw [decide_eq_true rfl]
    refine iteF ?_
    have e12 := e11.same s12
    refine ⟨_, rfl, _, rfl, .ref aL, xW, rowsL, last, 14, c, F2, M2, rfl, e12.li, wtW.same s12, hl6, by decide, smL.bd, c01, bW.hok (by decide) hl6, bW.lok (by decide) hl6, bW.forShow (by decide) hl6, fun H13 s13 => ⟨_, rfl, _, rfl, rfl, _, rfl, rfl, _, rfl, ?_⟩⟩
    have e13 := e12.same s13
    clear hxW tyW tzW q1 q2 q3 q4 q5 e11 e12 s12 s13 wtW
    have eD : decide (gap2 rowsL last (gets F2) (isIn M2) = Reach rowsL last c) = decide (V.int (Reach rowsL last c) = V.int 0) := by
      rw [gW0]
      refine decide_eq_decide.mpr ⟨fun h => ?_, fun h => ?_⟩
      · congr 1; omega
      · have := V.int.inj h; omega
    rw [eD, decide_eq_true rfl]
    refine iteF ?_
    clear eD gW gW0 bW pmS smS
    -- moved along
    refine ⟨_, rfl, B, 21, 9, rfl, e13.hb, by decide, by decide, by decide, fun u H14 sx14 hb14 hu14 => ⟨_, _, rfl, rfl, .inl (by decide), _, _, rfl, rfl, ?_⟩⟩
    have e14 := e13.sx sx14 hb14
    obtain ⟨m, hm⟩ : ∃ m : Int, m = 2 * ((u : Nat) : Int) - 8 := ⟨_, rfl⟩
    have hm2 : m % 2 = 0 := by omega
    have hm8 : -8 ≤ m ∧ m ≤ 8 := by omega
    have hmv : (fun i j : Int => V.int (i - j)) (2 * ((u : Nat) : Int)) 8 = V.int m := congrArg V.int hm.symm
    rw [hmv]
    clear hm hmv hu14
    rw [show (((((((List.set (L2.start N_law [V.ref a]) 1 (some (V.ref B))).set 2 (some (V.int (last : Nat)))).set 3 (some (V.ref RH))).set 4 (some (V.ref aL))).set 5 (some (V.ref xT))).set 6 (some (V.int (Reach rowsL last c)))).set 7 (some (V.ref xW))) = [some (.ref a), some (.ref B), some (.int (last : Nat)), some (.ref RH), some (.ref aL), some (.ref xT), some (.int (Reach rowsL last c)), some (.ref xW), none, none, none, none, none, none, none, none, none, none, none, none, none, none, none, none, none, none] from rfl]
    have smM := smL.move hm2 hm8
    refine ⟨_, rfl, _, rfl, .ref aL, _, rowsL, last, c, c, rfl, e14.li, smM.ok, fun zM H15 rowsM lastM s15 pmM liM => ?_⟩
    have smM' := smM.perm pmM
    obtain rfl : last = lastM := (liM.last_eq smM'.lt smM'.top).symm
    have e15 := e14.same s15
    obtain ⟨dx5, t5, y5, z5, hx5, ty5, tz5⟩ := e15.wt
    obtain ⟨ya, yx, rfl, y1, y2, y3⟩ := tpL_inv ty5
    obtain ⟨za, rfl, z1⟩ := tpI_inv tz5
    obtain ⟨q0, q1, q2⟩ := bT.bound (by decide) hl6
    refine ⟨_, rfl, xT, _, dx5, _, _, rfl, hx5, T.c_Worst, T.a_Worst_heaps, rfl, ya, rfl, ⟨_, y1⟩, fun D2 hD2 => lc_src (Src.tp (K := K) (f := dB) (l := F) (xs := yx)) (K := K) hD2 (fun (p : Int × Int) y H => ∃ t, y = .ref t ∧ H t = some (.tup [.int (p.1 + m), .int p.2])) (fun _ => true) (fun H' s => ⟨same_t s y1, y2.same s⟩) (fun d y H1 H2 s h => ?_) (by omega) (fun i d x H1 Q1 Q0 s1 hi hx k1 _ => ?_) (fun H16 ys16 s16 hD16 hp16 => ?_)⟩
    · obtain ⟨t, e, h⟩ := h
      exact ⟨t, e, s.2 _ _ h⟩
    · obtain ⟨q, rfl, hq⟩ := tpI_inv hx
      exact ⟨q, _, rfl, hq, rfl, _, _, rfl, _, _, rfl, rfl, rfl, yes_ ⟨_, rfl, _, rfl, _, _, rfl, rfl, _, rfl, (by show 2 ≤ sizeLine; decide), fun p hp => k1 rfl _ _ (same_new hp) ⟨p, rfl, upd_same⟩⟩⟩
    rw [List.filter_eq_self.mpr (by simp)] at hp16
    refine ⟨_, rfl, xT, _, dx5, _, _, rfl, s16 _ _ hx5, T.c_Worst, T.a_Worst_lefts, rfl, za, rfl, ⟨_, same_t s16 z1⟩, fun D3 hD3 => lc_src (Src.tup (K := K) (a := za) (xs := Ls.map V.int)) (K := K) hD3 (fun (v : V) y _ => ∃ n : Int, v = .int n ∧ y = .int (n + m)) (fun _ => true) (fun H' s => same_t (s16.trans s) z1) (fun _ _ _ _ _ h => h) (by rw [List.length_map]; omega) (fun i d x H1 Q1 Q0 s1 hi hx k1 _ => ?_) (fun H17 ys17 s17 hD17 hp17 => ?_)⟩
    · subst hx
      rw [List.getElem?_map] at hi
      obtain ⟨n, _, rfl⟩ := Option.map_eq_some_iff.mp hi
      exact ⟨rfl, yes_ ⟨_, rfl, _, rfl, _, _, rfl, rfl, k1 rfl _ _ (Same.refl _) ⟨n, rfl, rfl⟩⟩⟩
    rw [List.filter_eq_self.mpr (by simp)] at hp17
    refine fun xN dxN hxN hdxN hneN => ?_
    have sn : Same H17 (upd (upd H17 dxN (.own xN)) xN (.ins (He.ga K "Worst") dxN [])) := (same_new (o := .own xN) hdxN).trans (same_new (by rw [upd_ne (Ne.symm hneN)]; exact hxN))
    have ey17 : ys17 = (Ls.map fun y => y + m).map V.int := by
      have := paired_val (f := fun n : Int => V.int (n + m)) (L2.Paired.mapP (paired_map hp17) fun n y ⟨n', e1, e2⟩ => by rw [e2, V.int.inj e1])
      rw [this, List.map_map]
      rfl
    have fx2 : FixIn K 3 H17 (.ref D2) (dH (F.map fun p => (p.1 + m, p.2))) := by
      refine .inr ⟨D2, ys16, _, rfl, .inr (SqL.of (s17 _ _ hD16)), rfl, by rw [← paired_len hp16]; omega, paired_mapL (paired_mapL (L2.Paired.mapP hp16 fun p y ⟨t, e, h⟩ => ?_))⟩
      rw [e]
      exact fix_dI (n := 0) (ns := [p.1 + m, p.2]) (.inl (SqT.of (s17 _ _ h))) (by show 2 ≤ 1000000; decide)
    have fx3 : FixIn K 3 H17 (.ref D3) (dI (Ls.map fun y => y + m)) := fix_dI (n := 1) (.inr (SqL.of (by rw [← ey17]; exact hD17))) (by rw [List.length_map]; omega)
    refine ⟨xN, dxN, .ref D2, .ref D3, _, _, rfl, upd_same, fx2.same sn, fx3.same sn, fun H18 t18 y18 z18 sx18 hx18 ty18 tz18 => ⟨rfl, _, _, rfl, ?_⟩⟩
    have s18 : Same H15 H18 := (s16.trans s17).trans fun b o e => sx18 b o (ne_of_none e hxN) (sn _ _ e)
    have e18 := e15.same s18
    have wtN : WorstAt K H18 xN (F.map fun p => (p.1 + m, p.2)) (Ls.map fun y => y + m) := ⟨dxN, t18, y18, z18, hx18, ty18, tz18⟩
    have liM18 := liM.same s18
    clear fx2 fx3 sx18 hx18 ty18 tz18 sn hp16 hp17 ey17 hD16 hD17 s16 s17 s18 e15 liM s15 e14 sx14 hb14 e13 z1 y2 y1 tz5 ty5 hx5
    obtain ⟨k1, k2, k3⟩ := bT.there (k := m) (by decide) hl6 hm2 hm8
    refine ⟨_, rfl, _, rfl, zM, xN, rowsM, last, 22, c, _, _, rfl, liM18, wtN, hl6, by decide, smM'.bd, c01, k1, k2, k3, fun H19 s19 => ⟨_, _, rfl, rfl, _, rfl, ?_⟩⟩
    rw [decide_eq_true (gap_there smL (by decide) hm2 (by omega) pmM bT.gap), decide_eq_true rfl]
    refine iteF ?_
    have e19 := e18.same s19
    clear k1 k2 k3 wtN liM18 smM' pmM smM e18 s19
    -- taken three times
    have sm3 := smL.scale (k := 3) (.inr rfl)
    refine ⟨_, rfl, .ref aL, 3, rowsL, last, c, rfl, e19.li, ⟨by decide, by decide⟩, by decide, sm3.ok, fun z20 H20 rows3 last3 s20 pm3 li3 => ?_⟩
    have sm3' := sm3.perm pm3
    obtain rfl : last = last3 := (li3.last_eq sm3'.lt sm3'.top).symm
    have e20 := e19.same s20
    refine ⟨_, rfl, z20, xT, rows3, last, 14, c, F, Ls, rfl, li3, e20.wt, hl6, by decide, sm3'.bd, c01, bT.hok (by decide) hl6, bT.lok (by decide) hl6, bT.forShow (by decide) hl6, fun H21 s21 => ⟨_, _, rfl, rfl, _, rfl, ?_⟩⟩
    rw [decide_eq_true (gap_three (b2 := 0) pm3 bT.gap), decide_eq_true rfl]
    refine iteF ?_
    have e21 := e20.same s21
    clear sm3 sm3' li3 pm3 s20 s21 e19 e20
    rw [show (((([some (.ref a), some (.ref B), some (.int (last : Nat)), some (.ref RH), some (.ref aL), some (.ref xT), some (.int (Reach rowsL last c)), some (.ref xW), none, none, none, none, none, none, none, none, none, none, none, none, none, none, none, none, none, none] : L2.St).set 8 (some (V.int m))).set 9 (some zM)).set 10 (some (V.ref xN))) = [some (.ref a), some (.ref B), some (.int (last : Nat)), some (.ref RH), some (.ref aL), some (.ref xT), some (.int (Reach rowsL last c)), some (.ref xW), some (.int m), some zM, some (.ref xN), none, none, none, none, none, none, none, none, none, none, none, none, none, none, none] from rfl]
    -- another look
    refine ⟨_, rfl, _, rfl, (by show 3 ≤ sizeLine; decide), fun S2 hS2 => ?_⟩
    have s22 : Same H21 (upd H21 S2 (.lst [.int 3, .int 2, .int 1])) := same_new hS2
    have e22 := e21.same s22
    refine ⟨B, S2, 22, [3, 2, 1], rfl, e22.hb, by decide, upd_same, by simp, by decide, fun lr H23 sx23 hb23 hl2 => ?_⟩
    have e23 := e22.sx sx23 hb23
    obtain ⟨l2, rfl, hl2a, hl2b⟩ : ∃ l2 : Nat, lr = (l2 : Int) ∧ 1 ≤ l2 ∧ l2 ≤ 3 := by
      simp only [List.mem_cons, List.not_mem_nil, or_false] at hl2
      exact ⟨lr.toNat, by omega, by omega, by omega⟩
    refine ⟨B, 23, 2, l2, rfl, hb23, by decide, by decide, by decide, by omega, fun D4 H24 rows4 ys4 c4 sx24 hb24 hD4 hys4 hp4 dr4 c41 => ?_⟩
    have e24 := e23.sx sx24 hb24
    have l04 := dr4.len
    clear e21 e22 e23 sx23 hb23 sx24 hb24 s22
    refine ⟨D4, rfl, ⟨_, SqL.of hys4⟩, fun D5 hD5 => lc_src (Src.pl (K := K) (a := D4) (ys := ys4) (ds := rows4) (R := isR K)) (K := K) hD5 (fun (r : PRow) y H => isR K (fixW (-2) r) y H) (fun _ => true) (fun H' s => ⟨s.seq (SqL.of hys4), L2.Paired.mapP hp4 fun d y h => isR_stay d y _ _ (.same s) h⟩) (fun d y _ _ s h => isR_stay _ y _ _ s h) (by omega) (fun i r x H5 Q1 Q0 s5 hi hx k1 _ => ?_) (fun H25 ys5 s25 hys5 hp5 => ?_)⟩
    · obtain ⟨q, rfl, hq⟩ := hx
      refine ⟨q, _, rfl, SqT.of hq, rfl, _, _, rfl, _, _, rfl, _, _, rfl, rfl, rfl, yes_ ⟨_, rfl, _, rfl, _, rfl, _, rfl, _, _, rfl, rfl, _, rfl, ?_⟩⟩
      by_cases hw : (if r.2.2 < 0 then -r.2.2 else r.2.2) < 1000
      · refine dT hw ⟨_, rfl, (by show 3 ≤ sizeLine; decide), fun p hp => k1 rfl _ _ (same_new hp) ⟨p, rfl, ?_⟩⟩
        rw [upd_same]
        unfold fixW
        rw [if_pos hw]
      · refine dFa hw ⟨_, rfl, (by show 3 ≤ sizeLine; decide), fun p hp => k1 rfl _ _ (same_new hp) ⟨p, rfl, ?_⟩⟩
        rw [upd_same]
        unfold fixW
        rw [if_neg hw]
    rw [List.filter_eq_self.mpr (by simp)] at hp5
    have e25 := e24.same s25
    have hcR : ∀ r ∈ rows4.map (fixW (-2)), (r.1 + (r.2.1 : Nat)) % 2 = c4 := fun q hq => by
      obtain ⟨r, hr, rfl⟩ := List.mem_map.mp hq
      exact dr4.col r hr
    obtain ⟨r0, rs0, er0⟩ := List.exists_cons_of_ne_nil sm1.ok.ne
    have hc0 : (r0.1 + (r0.2.1 : Nat)) % 2 = c := sm1.ok.col r0 (by rw [er0]; exact List.mem_cons_self ..)
    have d01 : 0 ≤ (c4 - c) % 2 ∧ (c4 - c) % 2 ≤ 1 := by omega
    have smK : Small (rows4.map (shW (-2) ((c4 - c) % 2))) l2 14 7 c := dr4.small (by decide) (by decide) (by omega) (by decide) d01 (by omega)
    have emap : (rows4.map (fixW (-2))).map (fun r : PRow => (r.1 + (c4 - c) % 2, r.2.1, r.2.2)) = rows4.map (shW (-2) ((c4 - c) % 2)) := by
      rw [List.map_map]
      rfl
    have hpF := paired_mapL (f := fixW (-2)) (F := fun d y => isR K d y H25) hp5
    have lF : (rows4.map (fixW (-2))).length ≤ 3 := by rw [List.length_map]; omega
    clear hp5 hp4 hys4 e24 dr4 s25 l04
    generalize rows4.map (fixW (-2)) = rows5 at hcR emap hpF lF
    generalize rows4.map (shW (-2) ((c4 - c) % 2)) = rows6 at smK emap
    refine ⟨_, rfl, D5, rfl, ⟨_, SqL.of hys5⟩, fun D6 hD6 => lc_src (Src.pl (K := K) (a := D5) (ys := ys5) (ds := rows5) (R := isR K)) (K := K) hD6 (fun (r : PRow) y H => isR K (r.1 + (c4 - c) % 2, r.2.1, r.2.2) y H) (fun _ => true) (fun H' s => ⟨s.seq (SqL.of hys5), L2.Paired.mapP hpF fun d y h => isR_stay d y _ _ (.same s) h⟩) (fun d y _ _ s h => isR_stay _ y _ _ s h) (by omega) (fun i r x H5 Q1 Q0 s5 hi hx k1 _ => ?_) (fun H26 ys6 s26 hys6 hp6 => ?_)⟩
    · obtain ⟨q, rfl, hq⟩ := hx
      have e5 := e25.same s5
      have hp1 := e5.hp
      rw [er0] at hp1
      obtain ⟨y0, yr, ey1, ⟨q0, rfl, hq0⟩⟩ : ∃ y0 yr, ys1 = y0 :: yr ∧ isR K r0 y0 H5 := by
        cases hp1 with
        | cons h t => exact ⟨_, _, rfl, h⟩
      have hRl : SqL K H5 RH ys1 := SqL.of e5.hys
      have at0 : atI ys1 0 = some (.ref q0) := by rw [ey1]; exact atI_0
      refine ⟨q, _, rfl, SqT.of hq, rfl, _, _, rfl, _, _, rfl, _, _, rfl, rfl, rfl, yes_ ⟨_, rfl, _, rfl, _, rfl, _, _, rfl, rfl, _, rfl, RH, _, 0, _, rfl, rfl, hRl, at0, q0, _, 0, _, rfl, rfl, SqT.of hq0, rfl, _, _, rfl, rfl, _, rfl, RH, _, 0, _, rfl, rfl, hRl, at0, q0, _, 1, _, rfl, rfl, SqT.of hq0, rfl, _, _, rfl, rfl, .inl ⟨_, rfl, _, _, rfl, rfl, (show (0 : Int) < 2 by decide), _, _, rfl, rfl, _, rfl, _, rfl, (by show 3 ≤ sizeLine; decide), fun p hp => k1 rfl _ _ (same_new hp) ⟨p, rfl, ?_⟩⟩⟩⟩
      have hcr := hcR r (List.mem_of_getElem? hi)
      have ed : (r.1 + ((r.2.1 : Nat) : Int) - r0.1 - ((r0.2.1 : Nat) : Int)) % 2 = (c4 - c) % 2 := by omega
      rw [upd_same]
      show some (HO.tup [.int (r.1 + (r.1 + ((r.2.1 : Nat) : Int) - r0.1 - ((r0.2.1 : Nat) : Int)) % 2), _, _]) = _
      rw [ed]
    rw [List.filter_eq_self.mpr (by simp)] at hp6
    have hp6' : Paired (fun d y => isR K d y H26) rows6 ys6 := by
      rw [← emap]
      exact paired_mapL hp6
    have e26 := e25.same s26
    clear hp6 hpF hcR e25 s26 hys5
    refine fun aK dxK haK hdxK hneK => ?_
    have sn : Same H26 (upd (upd H26 dxK (.own aK)) aK (.ins (He.ga K "Look") dxK [])) := (same_new (o := .own aK) hdxK).trans (same_new (by rw [upd_ne (Ne.symm hneK)]; exact haK))
    refine ⟨aK, dxK, .ref D6, rows6, c, rfl, upd_same, Lp.same ⟨D6, ys6, rfl, SqL.of hys6, tpAll_R hp6'⟩ sn, smK.ok, fun H27 rowsK lastK sx27 pmK li27 => ⟨rfl, ?_⟩⟩
    have s27 : Same H26 H27 := fun b o e => sx27 b o (ne_of_none e haK) (sn _ _ e)
    have smK' := smK.perm pmK
    obtain rfl : l2 = lastK := (li27.last_eq smK'.lt smK'.top).symm
    have e27 := e26.same s27
    clear sx27 sn hp6' hys6 e26 s27
    obtain ⟨⟨aK', dxK', tK, hK0, hK1, hK2⟩, _⟩ := id li27
    obtain rfl : aK = aK' := V.ref.inj hK0
    obtain ⟨tKa, tKx, rfl, hK3, hK4, hK5⟩ := tpL_inv hK2
    have lK := smK'.ok.len
    have l1 := sm1.ok.len
    refine ⟨_, rfl, aK, _, dxK', _, _, rfl, hK1, T.c_Look, T.a_Look_rows, rfl, tKa, rfl, ⟨_, hK3⟩, fun D7 hD7 => lc_src (Src.tp (K := K) (f := dR) (l := rowsK) (xs := tKx)) (K := K) hD7 (fun r y H => Tp K H y (dR r)) (fun r => decide (∃ q ∈ rows1, rowKey q = rowKey r)) (fun H' s => ⟨same_t s hK3, hK4.same s⟩) (fun _ _ _ _ s h => Tp.stay s h) (by omega) (fun i r y H7 Q1 Q0 s7 hi hy k1 k0 => ?_) (fun H28 ys28 s28 hD28 hp28 => ?_)⟩
    · obtain ⟨q, rfl, hq⟩ := tpI_inv hy
      have e7 := e27.same s7
      refine ⟨rfl, _, rfl, 2, rfl, q, _, rfl, hq, cut2n, fun p7 hp7 => ?_⟩
      have sp : Same H7 (upd H7 p7 (.tup [.int r.1, .int (r.2.1 : Nat)])) := same_new hp7
      have ep := e7.same sp
      have hq7 : SqT K (upd H7 p7 (.tup [.int r.1, .int (r.2.1 : Nat)])) p7 [.int r.1, .int (r.2.1 : Nat)] := SqT.of upd_same
      refine ⟨_, rfl, RH, rfl, ⟨_, SqL.of ep.hys⟩, fun D8 hD8 => lc_src (Src.pl (K := K) (a := RH) (ys := ys1) (ds := rows1) (R := isR K)) (K := K) hD8 (fun (r : PRow) y H => Tp K H y (dKey r)) (fun _ => true) (fun H' s => ⟨s.seq (SqL.of ep.hys), L2.Paired.mapP ep.hp fun d y h => isR_stay d y _ _ (.same s) h⟩) (fun _ _ _ _ s h => Tp.stay s h) (by omega) (fun i2 r2 y2 H8 Q3 Q4 s8 hi2 hy2 k2 _ => ?_) (fun H9 ys9 s9 hD9 hp9 => ?_)⟩
      · obtain ⟨q2, rfl, hq2⟩ := hy2
        exact ⟨rfl, yes_ ⟨_, rfl, 2, rfl, q2, _, rfl, SqT.of hq2, cut2n, fun p8 hp8 => k2 rfl _ _ (same_new hp8) (tpI (ns := [r2.1, (r2.2.1 : Nat)]) (SqT.of upd_same))⟩⟩
      · rw [List.filter_eq_self.mpr (by simp)] at hp9
        have tpk : Tp K (upd H7 p7 (.tup [.int r.1, .int (r.2.1 : Nat)])) (.ref p7) (dKey r) := tpI (ns := [r.1, (r.2.1 : Nat)]) hq7
        refine ⟨dKey r, rows1.map dKey, (tpk.same s9).dp, .lst (SqL.of hD9) (paired_tp hp9).dp, rfl, shaped_keys rows1, _, rfl, ?_⟩
        rw [keys_any]
        have sp9 := sp.trans s9
        by_cases hx : ∃ q ∈ rows1, rowKey q = rowKey r
        · exact dT hx ⟨_, rfl, k1 (decide_eq_true hx) _ _ sp9 (hy.same sp9)⟩
        · exact dFa hx (k0 (decide_eq_false hx) _ sp9)
    generalize hLk : rowsK.filter (fun r => decide (∃ q ∈ rows1, rowKey q = rowKey r)) = Lk at hp28
    refine ⟨Nat.zero_le _, fun p8 hp8 => ⟨.list (Lk.map dR), .list [], .lst ((same_new (o := .lst []) hp8).seq (SqL.of hD28)) ((paired_tp hp28).same (same_new hp8)).dp, .lst (SqL.of upd_same) .nil, shaped_rows Lk, rfl, _, rfl, ?_⟩⟩
    by_cases hk0 : Lk ≠ []
    · rw [eqv_rows_nil hk0]
      exact iteT (k _)
    have hk1 : Lk = [] := Classical.not_not.mp hk0
    subst hk1
    rw [show PyData.eqv (.list (([] : List PRow).map dR)) (.list []) = true from rfl]
    refine iteF ?_
    have s29 : Same H27 (upd H28 p8 (.lst [])) := s28.trans (same_new hp8)
    have e29 := e27.same s29
    have li29 := li27.same s29
    generalize upd H28 p8 (.lst []) = H29 at s29 e29 li29 ⊢
    have dis : ∀ p ∈ rowsL, ∀ q ∈ rowsK, rowKey p ≠ rowKey q := fun p hp q hq e => by
      have := List.filter_eq_nil_iff.mp hLk q hq
      exact this (decide_eq_true ⟨p, pmL.mem_iff.mp hp, e⟩)
    have hlen : rowsL.length + rowsK.length ≤ 40 := by
      have e1 := pmL.length_eq
      have e2 := pmK.length_eq
      have : rows6.length ≤ 3 := by rw [← emap, List.length_map]; exact lF
      have : rows1.length ≤ 3 := l13
      omega
    clear hp28 hD28 s28 hLk hk0 e27 li27 hK1 hK2 hK3 hK4 hp8
    -- both looks laid together
    refine ⟨_, rfl, _, rfl, .ref aL, .ref aK, rowsL, rowsK, last, l2, c, rfl, e29.li, li29, dis, hlen, fun zB H30 rowsB lastB s30 pmB liB => ?_⟩
    have smB := (smL.append smK' dis hlen).perm pmB
    obtain rfl : max last l2 = lastB := (liB.last_eq smB.lt smB.top).symm
    have e30 := e29.same s30
    have li30 := li29.same s30
    obtain ⟨⟨aK2, dxK2, tK2, hJ0, hJ1, hJ2⟩, _⟩ := id li30
    obtain rfl : aK = aK2 := V.ref.inj hJ0
    refine ⟨_, rfl, _, rfl, aK, _, dxK2, _, _, rfl, hJ1, T.c_Look, T.a_Look_last, rfl, _, _, rfl, ?_⟩
    obtain ⟨late, hlate⟩ : ∃ late, late = max last l2 := ⟨_, rfl⟩
    have em : (if ((l2 : Nat) : Int) > ((last : Nat) : Int) then ((l2 : Nat) : Int) else ((last : Nat) : Int)) = ((late : Nat) : Int) := by
      split <;> omega
    rw [em]
    rw [← hlate] at smB liB
    have hla : last ≤ late := by omega
    have hlb : l2 ≤ late := by omega
    have hl6' : late ≤ 6 := smB.l6
    refine ⟨_, rfl, zB, rowsB, late, 14, c, rfl, liB, hl6', by decide, smB.bd, c01, fun xF H31 F4 M4 s31 wtF wm up lb => ⟨_, _, rfl, ?_⟩⟩
    have bF : Best 14 rowsB late c F4 M4 := ⟨wm, up, lb⟩
    have e31 := e30.same s31
    have li31 := li30.same s31
    have liB31 := liB.same s31
    clear wm up lb hJ1 hJ2 li30 liB e30 e29 li29 s29 s30 em hlate
    rw [show ((((([some (.ref a), some (.ref B), some (.int (last : Nat)), some (.ref RH), some (.ref aL), some (.ref xT), some (.int (Reach rowsL last c)), some (.ref xW), some (.int m), some zM, some (.ref xN), none, none, none, none, none, none, none, none, none, none, none, none, none, none, none] : L2.St).set 11 (some (V.ref D5))).set 12 (some (V.ref aK))).set 13 (some zB)).set 14 (some (V.int (late : Nat)))).set 15 (some (V.ref xF)) = [some (.ref a), some (.ref B), some (.int (last : Nat)), some (.ref RH), some (.ref aL), some (.ref xT), some (.int (Reach rowsL last c)), some (.ref xW), some (.int m), some zM, some (.ref xN), some (.ref D5), some (.ref aK), some zB, some (.int (late : Nat)), some (.ref xF), none, none, none, none, none, none, none, none, none, none] from rfl]
    -- what it gives, part by part
    obtain ⟨⟨aB, dxB, tB, rfl, hB1, hB2⟩, _⟩ := id liB31
    obtain ⟨⟨aK3, dxK3, tK3, hK0', hK1, hK2⟩, _⟩ := id li31
    obtain rfl : aK = aK3 := V.ref.inj hK0'
    obtain ⟨dxF, tF, yF, zF, hxF, tyF, tzF⟩ := id wtF
    obtain ⟨q1, q2, q3, q4, q5⟩ := bF.forGap (by decide) hl6'
    obtain ⟨rB1, rB2⟩ := smB.forGap (Nat.le_refl late)
    obtain ⟨rA1, rA2⟩ := sm1.forGap hla
    obtain ⟨rK1, rK2⟩ := smK'.forGap hlb
    refine ⟨_, rfl, aB, _, dxB, _, _, rfl, hB1, T.c_Look, T.a_Look_rows, rfl, _, rfl, xF, _, dxF, _, _, rfl, hxF, T.c_Worst, T.a_Worst_heaps, rfl, _, rfl, xF, _, dxF, _, _, rfl, hxF, T.c_Worst, T.a_Worst_lefts, rfl, _, rfl, tB, yF, zF, rowsB, F4, M4, late, rfl, .inl hB2, tyF, tzF, q1, q2, q3, q4, q5, rB1, rB2, hl6', fun H32 s32 => ?_⟩
    rw [bF.gap]
    have hxF2 := s32 _ _ hxF
    refine ⟨_, rfl, _, rfl, xF, _, dxF, _, _, rfl, hxF2, T.c_Worst, T.a_Worst_heaps, rfl, _, rfl, xF, _, dxF, _, _, rfl, hxF2, T.c_Worst, T.a_Worst_lefts, rfl, _, rfl, .ref RH, yF, zF, rows1, F4, M4, late, rfl, (e31.same s32).rows, tyF.same s32, tzF.same s32, q1, q2, q3, q4, q5, rA1, rA2, hl6', fun H33 s33 => ?_⟩
    have s323 := s32.trans s33
    have hxF3 := s323 _ _ hxF
    refine ⟨_, rfl, aK, _, dxK3, _, _, rfl, s323 _ _ hK1, T.c_Look, T.a_Look_rows, rfl, _, rfl, xF, _, dxF, _, _, rfl, hxF3, T.c_Worst, T.a_Worst_heaps, rfl, _, rfl, xF, _, dxF, _, _, rfl, hxF3, T.c_Worst, T.a_Worst_lefts, rfl, _, rfl, tK3, yF, zF, rowsK, F4, M4, late, rfl, .inl (hK2.same s323), tyF.same s323, tzF.same s323, q1, q2, q3, q4, q5, rK1, rK2, hl6', fun H34 s34 => ?_⟩
    refine ⟨(by show 2 ≤ sizeLine; decide), fun P1 hP1 => ?_⟩
    have s35 : Same H31 (upd H34 P1 (.lst [.int (gap2 rows1 late (gets F4) (isIn M4)), .int (gap2 rowsK late (gets F4) (isIn M4))])) := (s323.trans s34).trans (same_new hP1)
    have hP2 : (upd H34 P1 (.lst [.int (gap2 rows1 late (gets F4) (isIn M4)), .int (gap2 rowsK late (gets F4) (isIn M4))])) P1 = some (.lst ([gap2 rows1 late (gets F4) (isIn M4), gap2 rowsK late (gets F4) (isIn M4)].map V.int)) := upd_same
    have eg : [gap2 rows1 late (gets F4) (isIn M4), gap2 rowsK late (gets F4) (isIn M4)].sum = Reach rowsB late c := by
      rw [← bF.gap, gap_perm pmB, gap_append, gap_perm pmL]
      simp [List.sum_cons]
    refine ⟨_, rfl, P1, _, rfl, SqL.of hP2, _, rfl, rfl, _, rfl, ?_⟩
    rw [eg, decide_eq_true rfl]
    refine iteF ?_
    refine ⟨_, rfl, .ref aB, rowsB, late, 14, c, rfl, liB31.same s35, hl6', by decide, smB.bd, c01, fun z35 H35 s36 f35 => ⟨_, rfl, _, rfl, z35, _, late, rfl, f35, smB.reach, hl6', _, rfl, iteF ?_⟩⟩
    have s37 := s35.trans s36
    -- the second look's own
    refine ⟨_, rfl, .ref aK, rowsK, l2, 14, c, rfl, li31.same s37, smK'.l6, by decide, smK'.bd, c01, fun xO H36 F5 M5 s38 wtO wm up lb => ?_⟩
    have bO : Best 14 rowsK l2 c F5 M5 := ⟨wm, up, lb⟩
    have s39 := s37.trans s38
    obtain ⟨dxO, tO, yO, zO, hxO, tyO, tzO⟩ := wtO
    obtain ⟨o1, o2, o3, o4, o5⟩ := bO.forGap (by decide) smK'.l6
    refine ⟨_, rfl, aK, _, dxK3, _, _, rfl, s39 _ _ hK1, T.c_Look, T.a_Look_rows, rfl, _, rfl, xO, _, dxO, _, _, rfl, hxO, T.c_Worst, T.a_Worst_heaps, rfl, _, rfl, xO, _, dxO, _, _, rfl, hxO, T.c_Worst, T.a_Worst_lefts, rfl, _, rfl, tK3, yO, zO, rowsK, F5, M5, late, rfl, .inl (hK2.same s39), tyO, tzO, o1, o2, o3, o4, o5, rK1, rK2, hl6', fun H37 s40 => ?_⟩
    have hP3 : SqL K H37 P1 [.int (gap2 rows1 late (gets F4) (isIn M4)), .int (gap2 rowsK late (gets F4) (isIn M4))] := ((s36.trans s38).trans s40).seq (SqL.of hP2)
    have gO : gap2 rowsK late (gets F5) (isIn M5) = Reach rowsK l2 c * 2 ^ (late - l2) := by
      rw [gap_later smK'.lt hlb, bO.gap, Int.mul_comm]
    rw [gO]
    have w1 := gap_within (F := F4) (Ls := M4) smL hla bF.col
    have w2 := gap_within (F := F4) (Ls := M4) smK' hlb bF.col
    have eg2 : gap2 rows1 late (gets F4) (isIn M4) = gap2 rowsL late (gets F4) (isIn M4) := gap_perm pmL.symm
    have et : (2 : Int) ^ (((late : Nat) : Int) - ((last : Nat) : Int)).toNat = 2 ^ (late - last) := by congr 1; omega
    have rs := smL.reach
    have hmost : Reach rowsB late c ≤ Reach rowsL last c * 2 ^ (late - last) + Reach rowsK l2 c * 2 ^ (late - l2) := by
      have : Reach rowsB late c = gap2 rows1 late (gets F4) (isIn M4) + gap2 rowsK late (gets F4) (isIn M4) := by
        rw [← eg]
        simp [List.sum_cons]
      omega
    refine ⟨_, rfl, P1, _, 0, _, rfl, rfl, hP3, rfl, _, rfl, _, rfl, _, rfl, _, rfl, _, _, rfl, rfl, _, _, rfl, rfl, ⟨by omega, by omega, by omega⟩, _, _, rfl, rfl, _, rfl, ?_⟩
    rw [et]
    refine dT ?_ ?_
    · rw [eg2]
      split <;> omega
    refine ⟨_, rfl, P1, _, 1, _, rfl, rfl, hP3, rfl, _, rfl, _, rfl, _, _, rfl, rfl, _, rfl, ?_⟩
    refine dT ?_ ?_
    · split <;> omega
    refine ⟨_, rfl, _, rfl, _, rfl, _, rfl, _, _, rfl, rfl, _, _, rfl, rfl, ⟨by omega, by omega, by omega⟩, _, rfl, _, _, rfl, rfl, _, _, rfl, rfl, ?_⟩
    rw [et]
    exact qT hmost (k _)
end
end Nw
namespace Nw
open PySem PySem.Spec PyProof.Rows L2
theorem obT_eq (s : PySem.W.SharedT) : obT fa fn s = (hookN fa fn).obs s.abs := congrArg (obsN fa fn) (funext (HandSHeadRun.getT_eq s))
theorem facts {w : World} {K : PySem.W.Frag} {h : Heap} {mg : Str → Option Value} {f : Addr} (X : K.In h) (G : h.Ns mainGlobals mg) (hfa : mg ("law" : Str) = some (.ref f)) (c : He.SaysD fa fn K) (e : (exB K && (wsB K && wsC K)) = true) (o : wsObs K = wsVal) :
    ∃ fd : FuncData, (∀ (s : Shared) (v : Value), BindsTo s fd ⟨[v], []⟩ [("_law_script", v)]) ∧ ∀ base : Heap, K.In base → base.Ns mainGlobals mg → FnOk LawRow.prog w K mg base CX0 20 f fd ["_law_script"] (sp_law K) := by
  obtain ⟨e1, e2⟩ := He.ba e
  obtain ⟨e3, e4⟩ := He.ba e2
  have T : Tx2 LawRow.prog K mg := { x := ⟨h, X, G⟩, c := c, e := e1, wo := o, wb := e3, wc := e4, pf := rfl, pt := by decide +kernel }
  obtain ⟨fd, F⟩ := T.f_law
  have ef := hfa.symm.trans T.g_law
  cases ef
  have b := FunD.bindsA (ps := ["_law_script"]) F fun _ _ _ _ _ _ us hl => match us, hl with | [_], _ => rfl
  exact ⟨fd, fun s v => b s [v] rfl, fun base _ _ => F_law T F⟩
end Nw
open PySem PySem.W PySem.Calls PyProof.Rows
theorem PySem.Challenge.cw_nodice_k56_whole_worst_starts_turned_and_holds : PySem.Challenge.rw_nodice_k56_whole_worst_starts_turned_and.Holds := by
  w_on; o_law
  refine HandSHeadRun.head_imp (r := Nw.LawRow) (q := view Nw.LawRow.prog [0, 114]) (H := Nw.hookN Nw.fa Nw.fn) (ob := Nw.obT Nw.fa Nw.fn) (M := 12000) (loose := Nw.namesI) (d := HandSHeadRun.topDef Nw.LawRow.prog 114) (kwd := []) Nw.obT_eq
    Nw.run (by kernel_rfl) (by kernel_rfl) (by kernel_rfl) (by rfl) (by first | assumption | decide +kernel) (by decide +kernel) ⟨rfl, rfl, rfl, rfl, rfl, by decide +kernel⟩ ?hw ?hc
  case hw => w_witness2
  case hc =>
    refine L2.walk_ofE (l := PySem.Challenge.rw_nodice_k56_whole_worst_starts_turned_and) (n := 63) (k := 20) (x := "_law_script") (CX := L2.CX0) rfl (by decide) (by kernel_rfl) ⟨rfl, by decide, by decide⟩ ?F (fun _ _ _ _ z => z)
    intro w mg f h Y G hmg0
    obtain ⟨K, KX, c, e, o⟩ := Y
    have hmg : mg ("law" : PySem.Str) = some (.ref f) := by
      have e : (HandSHeadRun.topDef Nw.LawRow.prog 114).name = ("law" : PySem.Str) := by kernel_rfl
      rw [← e]
      exact hmg0
    obtain ⟨fd, hb, hF⟩ := Nw.facts (w := w) KX G hmg c e o
    exact ⟨K, fd, Nw.sp_law K, KX, hb, fun H a ns hl _ hS => ⟨a, ns, rfl, hS, hl, fun _ => rfl⟩, hF⟩

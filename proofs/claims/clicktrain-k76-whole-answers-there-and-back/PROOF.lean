import PyProof.Rows.All
import Wide.All
import OpenK.AllK
import Wide.FinOn
import KE.KStateDown
import Lean
import HandS.Base
import HandS.Call
import HandS.Ends
import HandS.More
import HandS.Words
import HandS.WordsExc
import HandS.Defaults
import HandS.Head0
import HandS.Head1
import HandS.Head2
import HandS.HeadEnd
import HandS.HeadHook1
import HandS.HeadHook2
import PySem.Challenge.RW_clicktrain_k76_whole_answers_there_and_b
import HandS.ForMost
import HandS.IsInst
import HandS.Conv
import HandS.Zip
import HandS.TupAny
import HandS.CallLocal
import HandS.SetKeys
import KE.KDictKeyed
import KE.KeyNested
import HandS.Deep
import KE.DataCmp
import KE.GoesNew
import KE.SortData
import KE.KDictPairs
import KE.KDictDisplayH
import HandS.TupLen
import HandS.SetFor
import HandS.StrMore
import HandS.StrSplit
import PyProof.EqAt
import PyProof.EqKinds
import HandS.Style
import HandS.Flt
import HandS.Small
import HandS.Iter
import KE.KDictSum
import HandS.Codes
import HandS.ReplaceDef
import HandS.ReplaceLit
import HandS.TryOnly
import HandS.Wide
import PyProof.ReprRoads
import PyProof.ReprLen
import KE.KRevSl
-- Head
set_option Elab.async false
set_option linter.all false
set_option maxRecDepth 100000
set_option maxHeartbeats 0
namespace Ct
open PySem PySem.Spec PyProof.Rows L2
def topS (i : Nat) : Stmt := PySem.Challenge.pw_clicktrain_k76_whole_answers_there_and_b.main.body.getD i (.Pass ⟨0, 0, 0, 0⟩)
abbrev s_is_whole : Stmt := topS 8
abbrev s_is_marks : Stmt := topS 9
abbrev s_is_part : Stmt := topS 10
abbrev s_check_train : Stmt := topS 11
abbrev s_places : Stmt := topS 12
abbrev s_is_stand : Stmt := topS 13
abbrev s_check_stand : Stmt := topS 14
abbrev s_marks_met : Stmt := topS 15
abbrev s_marks_left : Stmt := topS 16
abbrev s_part_pushed : Stmt := topS 17
abbrev s_pushed_often : Stmt := topS 18
abbrev s_pushed : Stmt := topS 19
abbrev s_stand_count : Stmt := topS 20
abbrev s_sure : Stmt := topS 24
abbrev s_count_in : Stmt := topS 25
abbrev s_way_in : Stmt := topS 26
abbrev s_way_shown : Stmt := topS 27
abbrev s_listed : Stmt := topS 28
abbrev s_words_in : Stmt := topS 29
abbrev s_part_shown : Stmt := topS 30
abbrev s_part_in : Stmt := topS 31
abbrev s_show_train : Stmt := topS 32
abbrev s_read_train : Stmt := topS 33
abbrev s_show_stand : Stmt := topS 34
abbrev s_read_stand : Stmt := topS 35
abbrev s_step_shown : Stmt := topS 36
abbrev s_push_in : Stmt := topS 37
abbrev s_deed_in : Stmt := topS 38
abbrev s_show_row : Stmt := topS 39
abbrev s_read_row : Stmt := topS 40
abbrev s_show_pushes : Stmt := topS 41
abbrev s_read_pushes : Stmt := topS 42
abbrev s_shown_in : Stmt := topS 43
abbrev s_show_shown : Stmt := topS 44
abbrev s_read_shown : Stmt := topS 45
abbrev s_show_shows : Stmt := topS 46
abbrev s_read_shows : Stmt := topS 47
abbrev s_two_shown : Stmt := topS 48
abbrev s_show_answer : Stmt := topS 49
abbrev s_two_in : Stmt := topS 50
abbrev s_pair_in : Stmt := topS 51
abbrev s_bar_in : Stmt := topS 52
abbrev s_numbered_in : Stmt := topS 53
abbrev s_steps_in : Stmt := topS 54
abbrev s_wheel_in : Stmt := topS 55
abbrev s_read_answer : Stmt := topS 56
abbrev s_pair_pushed : Stmt := topS 58
abbrev s_trains_alike : Stmt := topS 59
abbrev s_is_pair : Stmt := topS 60
abbrev s_shows_alike : Stmt := topS 61
abbrev s_are_apart : Stmt := topS 62
abbrev s_is_way : Stmt := topS 63
abbrev s_are_closed : Stmt := topS 64
abbrev s_is_show_makes : Stmt := topS 66
abbrev s_check_shows : Stmt := topS 68
abbrev s_own_ways : Stmt := topS 69
abbrev s_ways_behind : Stmt := topS 70
abbrev s_teeth_passed : Stmt := topS 71
abbrev s_first_wrong : Stmt := topS 72
abbrev s_place_of : Stmt := topS 73
abbrev s_first_two : Stmt := topS 74
abbrev s_marks_shown : Stmt := topS 75
abbrev s_smallest_by : Stmt := topS 76
abbrev s_is_two : Stmt := topS 77
abbrev s_does_shows : Stmt := topS 78
abbrev s_is_none_by : Stmt := topS 79
abbrev s_is_smallest_by : Stmt := topS 80
abbrev s_smallest : Stmt := topS 81
abbrev s_is_smallest : Stmt := topS 82
abbrev s_smallest_behind : Stmt := topS 83
abbrev s_is_smallest_behind : Stmt := topS 84
abbrev s_is_deed : Stmt := topS 86
abbrev s_check_row : Stmt := topS 87
abbrev s_walked : Stmt := topS 88
abbrev s_left : Stmt := topS 89
abbrev s_check_keys : Stmt := topS 92
abbrev s_check_goal : Stmt := topS 93
abbrev s_all_pushes : Stmt := topS 94
abbrev s_push_ends : Stmt := topS 95
abbrev s_deed_ends : Stmt := topS 96
abbrev s_least_by : Stmt := topS 97
abbrev s_least_pushes : Stmt := topS 98
abbrev s_fewest_deeds : Stmt := topS 99
abbrev s_is_push : Stmt := topS 100
abbrev s_is_numbered : Stmt := topS 101
abbrev s_numbers_hold : Stmt := topS 102
abbrev s_is_paper : Stmt := topS 103
abbrev s_shows_row : Stmt := topS 104
abbrev s_shows_deeds : Stmt := topS 105
abbrev s_shows_never : Stmt := topS 106
abbrev s_wears : Stmt := topS 108
abbrev s_worn : Stmt := topS 109
abbrev s_is_show_worn : Stmt := topS 110
abbrev s_shows_just : Stmt := topS 112
abbrev s_explained : Stmt := topS 113
abbrev s_law_draws : Stmt := topS 115
abbrev s_law_next : Stmt := topS 116
abbrev s_law_train : Stmt := topS 117
abbrev s_law_stand : Stmt := topS 118
abbrev s_law_seen : Stmt := topS 119
abbrev s_law_back : Stmt := topS 120
abbrev s_law_row_well : Stmt := topS 121
abbrev s_law_lists_well : Stmt := topS 122
abbrev s_law : Stmt := topS 123
def d_is_whole : He.DefD := ⟨("is_whole", none), "is_whole", "is_whole", defArgs s_is_whole, defBody s_is_whole, defScope s_is_whole, [], []⟩
def d_is_marks : He.DefD := ⟨("is_marks", none), "is_marks", "is_marks", defArgs s_is_marks, defBody s_is_marks, defScope s_is_marks, [], []⟩
def d_is_part : He.DefD := ⟨("is_part", none), "is_part", "is_part", defArgs s_is_part, defBody s_is_part, defScope s_is_part, [], []⟩
def d_check_train : He.DefD := ⟨("check_train", none), "check_train", "check_train", defArgs s_check_train, defBody s_check_train, defScope s_check_train, [], []⟩
def d_places : He.DefD := ⟨("places", none), "places", "places", defArgs s_places, defBody s_places, defScope s_places, [], []⟩
def d_is_stand : He.DefD := ⟨("is_stand", none), "is_stand", "is_stand", defArgs s_is_stand, defBody s_is_stand, defScope s_is_stand, [], []⟩
def d_check_stand : He.DefD := ⟨("check_stand", none), "check_stand", "check_stand", defArgs s_check_stand, defBody s_check_stand, defScope s_check_stand, [], []⟩
def d_marks_met : He.DefD := ⟨("marks_met", none), "marks_met", "marks_met", defArgs s_marks_met, defBody s_marks_met, defScope s_marks_met, [], []⟩
def d_marks_left : He.DefD := ⟨("marks_left", none), "marks_left", "marks_left", defArgs s_marks_left, defBody s_marks_left, defScope s_marks_left, [], []⟩
def d_part_pushed : He.DefD := ⟨("part_pushed", none), "part_pushed", "part_pushed", defArgs s_part_pushed, defBody s_part_pushed, defScope s_part_pushed, [], []⟩
def d_pushed_often : He.DefD := ⟨("pushed_often", none), "pushed_often", "pushed_often", defArgs s_pushed_often, defBody s_pushed_often, defScope s_pushed_often, [], []⟩
def d_pushed : He.DefD := ⟨("pushed", none), "pushed", "pushed", defArgs s_pushed, defBody s_pushed, defScope s_pushed, [], []⟩
def d_stand_count : He.DefD := ⟨("stand_count", none), "stand_count", "stand_count", defArgs s_stand_count, defBody s_stand_count, defScope s_stand_count, [], []⟩
def d_sure : He.DefD := ⟨("sure", none), "sure", "sure", defArgs s_sure, defBody s_sure, defScope s_sure, [], []⟩
def d_count_in : He.DefD := ⟨("count_in", none), "count_in", "count_in", defArgs s_count_in, defBody s_count_in, defScope s_count_in, [], []⟩
def d_way_in : He.DefD := ⟨("way_in", none), "way_in", "way_in", defArgs s_way_in, defBody s_way_in, defScope s_way_in, [], []⟩
def d_way_shown : He.DefD := ⟨("way_shown", none), "way_shown", "way_shown", defArgs s_way_shown, defBody s_way_shown, defScope s_way_shown, [], []⟩
def d_listed : He.DefD := ⟨("listed", none), "listed", "listed", defArgs s_listed, defBody s_listed, defScope s_listed, [], []⟩
def d_words_in : He.DefD := ⟨("words_in", none), "words_in", "words_in", defArgs s_words_in, defBody s_words_in, defScope s_words_in, [], []⟩
def d_part_shown : He.DefD := ⟨("part_shown", none), "part_shown", "part_shown", defArgs s_part_shown, defBody s_part_shown, defScope s_part_shown, [], []⟩
def d_part_in : He.DefD := ⟨("part_in", none), "part_in", "part_in", defArgs s_part_in, defBody s_part_in, defScope s_part_in, [], []⟩
def d_show_train : He.DefD := ⟨("show_train", none), "show_train", "show_train", defArgs s_show_train, defBody s_show_train, defScope s_show_train, [], []⟩
def d_read_train : He.DefD := ⟨("read_train", none), "read_train", "read_train", defArgs s_read_train, defBody s_read_train, defScope s_read_train, [], []⟩
def d_show_stand : He.DefD := ⟨("show_stand", none), "show_stand", "show_stand", defArgs s_show_stand, defBody s_show_stand, defScope s_show_stand, [], []⟩
def d_read_stand : He.DefD := ⟨("read_stand", none), "read_stand", "read_stand", defArgs s_read_stand, defBody s_read_stand, defScope s_read_stand, [], []⟩
def d_step_shown : He.DefD := ⟨("step_shown", none), "step_shown", "step_shown", defArgs s_step_shown, defBody s_step_shown, defScope s_step_shown, [], []⟩
def d_push_in : He.DefD := ⟨("push_in", none), "push_in", "push_in", defArgs s_push_in, defBody s_push_in, defScope s_push_in, [], []⟩
def d_deed_in : He.DefD := ⟨("deed_in", none), "deed_in", "deed_in", defArgs s_deed_in, defBody s_deed_in, defScope s_deed_in, [], []⟩
def d_show_row : He.DefD := ⟨("show_row", none), "show_row", "show_row", defArgs s_show_row, defBody s_show_row, defScope s_show_row, [], []⟩
def d_read_row : He.DefD := ⟨("read_row", none), "read_row", "read_row", defArgs s_read_row, defBody s_read_row, defScope s_read_row, [], []⟩
def d_show_pushes : He.DefD := ⟨("show_pushes", none), "show_pushes", "show_pushes", defArgs s_show_pushes, defBody s_show_pushes, defScope s_show_pushes, [], []⟩
def d_read_pushes : He.DefD := ⟨("read_pushes", none), "read_pushes", "read_pushes", defArgs s_read_pushes, defBody s_read_pushes, defScope s_read_pushes, [], []⟩
def d_shown_in : He.DefD := ⟨("shown_in", none), "shown_in", "shown_in", defArgs s_shown_in, defBody s_shown_in, defScope s_shown_in, [], []⟩
def d_show_shown : He.DefD := ⟨("show_shown", none), "show_shown", "show_shown", defArgs s_show_shown, defBody s_show_shown, defScope s_show_shown, [], []⟩
def d_read_shown : He.DefD := ⟨("read_shown", none), "read_shown", "read_shown", defArgs s_read_shown, defBody s_read_shown, defScope s_read_shown, [], []⟩
def d_show_shows : He.DefD := ⟨("show_shows", none), "show_shows", "show_shows", defArgs s_show_shows, defBody s_show_shows, defScope s_show_shows, [], []⟩
def d_read_shows : He.DefD := ⟨("read_shows", none), "read_shows", "read_shows", defArgs s_read_shows, defBody s_read_shows, defScope s_read_shows, [], []⟩
def d_two_shown : He.DefD := ⟨("two_shown", none), "two_shown", "two_shown", defArgs s_two_shown, defBody s_two_shown, defScope s_two_shown, [], []⟩
def d_show_answer : He.DefD := ⟨("show_answer", none), "show_answer", "show_answer", defArgs s_show_answer, defBody s_show_answer, defScope s_show_answer, [], []⟩
def d_two_in : He.DefD := ⟨("two_in", none), "two_in", "two_in", defArgs s_two_in, defBody s_two_in, defScope s_two_in, [], []⟩
def d_pair_in : He.DefD := ⟨("pair_in", none), "pair_in", "pair_in", defArgs s_pair_in, defBody s_pair_in, defScope s_pair_in, [], []⟩
def d_bar_in : He.DefD := ⟨("bar_in", none), "bar_in", "bar_in", defArgs s_bar_in, defBody s_bar_in, defScope s_bar_in, [], []⟩
def d_numbered_in : He.DefD := ⟨("numbered_in", none), "numbered_in", "numbered_in", defArgs s_numbered_in, defBody s_numbered_in, defScope s_numbered_in, [], []⟩
def d_steps_in : He.DefD := ⟨("steps_in", none), "steps_in", "steps_in", defArgs s_steps_in, defBody s_steps_in, defScope s_steps_in, [], []⟩
def d_wheel_in : He.DefD := ⟨("wheel_in", none), "wheel_in", "wheel_in", defArgs s_wheel_in, defBody s_wheel_in, defScope s_wheel_in, [], []⟩
def d_read_answer : He.DefD := ⟨("read_answer", none), "read_answer", "read_answer", defArgs s_read_answer, defBody s_read_answer, defScope s_read_answer, [], []⟩
def d_pair_pushed : He.DefD := ⟨("pair_pushed", none), "pair_pushed", "pair_pushed", defArgs s_pair_pushed, defBody s_pair_pushed, defScope s_pair_pushed, [], []⟩
def d_trains_alike : He.DefD := ⟨("trains_alike", none), "trains_alike", "trains_alike", defArgs s_trains_alike, defBody s_trains_alike, defScope s_trains_alike, [], []⟩
def d_is_pair : He.DefD := ⟨("is_pair", none), "is_pair", "is_pair", defArgs s_is_pair, defBody s_is_pair, defScope s_is_pair, [], []⟩
def d_shows_alike : He.DefD := ⟨("shows_alike", none), "shows_alike", "shows_alike", defArgs s_shows_alike, defBody s_shows_alike, defScope s_shows_alike, [], []⟩
def d_are_apart : He.DefD := ⟨("are_apart", none), "are_apart", "are_apart", defArgs s_are_apart, defBody s_are_apart, defScope s_are_apart, [], []⟩
def d_is_way : He.DefD := ⟨("is_way", none), "is_way", "is_way", defArgs s_is_way, defBody s_is_way, defScope s_is_way, [], []⟩
def d_are_closed : He.DefD := ⟨("are_closed", none), "are_closed", "are_closed", defArgs s_are_closed, defBody s_are_closed, defScope s_are_closed, [], []⟩
def d_is_show_makes : He.DefD := ⟨("is_show_makes", none), "is_show", "is_show", defArgs s_is_show_makes, defBody s_is_show_makes, defScope s_is_show_makes, [], []⟩
def d_check_shows : He.DefD := ⟨("check_shows", none), "check_shows", "check_shows", defArgs s_check_shows, defBody s_check_shows, defScope s_check_shows, [], []⟩
def d_own_ways : He.DefD := ⟨("own_ways", none), "own_ways", "own_ways", defArgs s_own_ways, defBody s_own_ways, defScope s_own_ways, [], []⟩
def d_ways_behind : He.DefD := ⟨("ways_behind", none), "ways_behind", "ways_behind", defArgs s_ways_behind, defBody s_ways_behind, defScope s_ways_behind, [], []⟩
def d_teeth_passed : He.DefD := ⟨("teeth_passed", none), "teeth_passed", "teeth_passed", defArgs s_teeth_passed, defBody s_teeth_passed, defScope s_teeth_passed, [], []⟩
def d_first_wrong : He.DefD := ⟨("first_wrong", none), "first_wrong", "first_wrong", defArgs s_first_wrong, defBody s_first_wrong, defScope s_first_wrong, [], []⟩
def d_place_of : He.DefD := ⟨("place_of", none), "place_of", "place_of", defArgs s_place_of, defBody s_place_of, defScope s_place_of, [], []⟩
def d_first_two : He.DefD := ⟨("first_two", none), "first_two", "first_two", defArgs s_first_two, defBody s_first_two, defScope s_first_two, [], []⟩
def d_marks_shown : He.DefD := ⟨("marks_shown", none), "marks_shown", "marks_shown", defArgs s_marks_shown, defBody s_marks_shown, defScope s_marks_shown, [], []⟩
def d_smallest_by : He.DefD := ⟨("smallest_by", none), "smallest_by", "smallest_by", defArgs s_smallest_by, defBody s_smallest_by, defScope s_smallest_by, [], []⟩
def d_is_two : He.DefD := ⟨("is_two", none), "is_two", "is_two", defArgs s_is_two, defBody s_is_two, defScope s_is_two, [], []⟩
def d_does_shows : He.DefD := ⟨("does_shows", none), "does_shows", "does_shows", defArgs s_does_shows, defBody s_does_shows, defScope s_does_shows, [], []⟩
def d_is_none_by : He.DefD := ⟨("is_none_by", none), "is_none_by", "is_none_by", defArgs s_is_none_by, defBody s_is_none_by, defScope s_is_none_by, [], []⟩
def d_is_smallest_by : He.DefD := ⟨("is_smallest_by", none), "is_smallest_by", "is_smallest_by", defArgs s_is_smallest_by, defBody s_is_smallest_by, defScope s_is_smallest_by, [], []⟩
def d_smallest : He.DefD := ⟨("smallest", none), "smallest", "smallest", defArgs s_smallest, defBody s_smallest, defScope s_smallest, [], []⟩
def d_is_smallest : He.DefD := ⟨("is_smallest", none), "is_smallest", "is_smallest", defArgs s_is_smallest, defBody s_is_smallest, defScope s_is_smallest, [], []⟩
def d_smallest_behind : He.DefD := ⟨("smallest_behind", none), "smallest_behind", "smallest_behind", defArgs s_smallest_behind, defBody s_smallest_behind, defScope s_smallest_behind, [], []⟩
def d_is_smallest_behind : He.DefD := ⟨("is_smallest_behind", none), "is_smallest_behind", "is_smallest_behind", defArgs s_is_smallest_behind, defBody s_is_smallest_behind, defScope s_is_smallest_behind, [], []⟩
def d_is_deed : He.DefD := ⟨("is_deed", none), "is_deed", "is_deed", defArgs s_is_deed, defBody s_is_deed, defScope s_is_deed, [], []⟩
def d_check_row : He.DefD := ⟨("check_row", none), "check_row", "check_row", defArgs s_check_row, defBody s_check_row, defScope s_check_row, [], []⟩
def d_walked : He.DefD := ⟨("walked", none), "walked", "walked", defArgs s_walked, defBody s_walked, defScope s_walked, [], []⟩
def d_left : He.DefD := ⟨("left", none), "left", "left", defArgs s_left, defBody s_left, defScope s_left, [], []⟩
def d_check_keys : He.DefD := ⟨("check_keys", none), "check_keys", "check_keys", defArgs s_check_keys, defBody s_check_keys, defScope s_check_keys, [], []⟩
def d_check_goal : He.DefD := ⟨("check_goal", none), "check_goal", "check_goal", defArgs s_check_goal, defBody s_check_goal, defScope s_check_goal, [], []⟩
def d_all_pushes : He.DefD := ⟨("all_pushes", none), "all_pushes", "all_pushes", defArgs s_all_pushes, defBody s_all_pushes, defScope s_all_pushes, [], []⟩
def d_push_ends : He.DefD := ⟨("push_ends", none), "push_ends", "push_ends", defArgs s_push_ends, defBody s_push_ends, defScope s_push_ends, [], []⟩
def d_deed_ends : He.DefD := ⟨("deed_ends", none), "deed_ends", "deed_ends", defArgs s_deed_ends, defBody s_deed_ends, defScope s_deed_ends, [], []⟩
def d_least_by : He.DefD := ⟨("least_by", none), "least_by", "least_by", defArgs s_least_by, defBody s_least_by, defScope s_least_by, [], []⟩
def d_least_pushes : He.DefD := ⟨("least_pushes", none), "least_pushes", "least_pushes", defArgs s_least_pushes, defBody s_least_pushes, defScope s_least_pushes, [], []⟩
def d_fewest_deeds : He.DefD := ⟨("fewest_deeds", none), "fewest_deeds", "fewest_deeds", defArgs s_fewest_deeds, defBody s_fewest_deeds, defScope s_fewest_deeds, [], []⟩
def d_is_push : He.DefD := ⟨("is_push", none), "is_push", "is_push", defArgs s_is_push, defBody s_is_push, defScope s_is_push, [], []⟩
def d_is_numbered : He.DefD := ⟨("is_numbered", none), "is_numbered", "is_numbered", defArgs s_is_numbered, defBody s_is_numbered, defScope s_is_numbered, [], []⟩
def d_numbers_hold : He.DefD := ⟨("numbers_hold", none), "numbers_hold", "numbers_hold", defArgs s_numbers_hold, defBody s_numbers_hold, defScope s_numbers_hold, [], []⟩
def d_is_paper : He.DefD := ⟨("is_paper", none), "is_paper", "is_paper", defArgs s_is_paper, defBody s_is_paper, defScope s_is_paper, [], []⟩
def d_shows_row : He.DefD := ⟨("shows_row", none), "shows_row", "shows_row", defArgs s_shows_row, defBody s_shows_row, defScope s_shows_row, [], []⟩
def d_shows_deeds : He.DefD := ⟨("shows_deeds", none), "shows_deeds", "shows_deeds", defArgs s_shows_deeds, defBody s_shows_deeds, defScope s_shows_deeds, [], []⟩
def d_shows_never : He.DefD := ⟨("shows_never", none), "shows_never", "shows_never", defArgs s_shows_never, defBody s_shows_never, defScope s_shows_never, [], []⟩
def d_wears : He.DefD := ⟨("wears", none), "wears", "wears", defArgs s_wears, defBody s_wears, defScope s_wears, [], []⟩
def d_worn : He.DefD := ⟨("worn", none), "worn", "worn", defArgs s_worn, defBody s_worn, defScope s_worn, [], []⟩
def d_is_show_worn : He.DefD := ⟨("is_show_worn", none), "is_show", "is_show", defArgs s_is_show_worn, defBody s_is_show_worn, defScope s_is_show_worn, [], []⟩
def d_shows_just : He.DefD := ⟨("shows_just", none), "shows_just", "shows_just", defArgs s_shows_just, defBody s_shows_just, defScope s_shows_just, [], []⟩
def d_explained : He.DefD := ⟨("explained", none), "explained", "explained", defArgs s_explained, defBody s_explained, defScope s_explained, [], []⟩
def d_law_draws : He.DefD := ⟨("_law_draws", none), "_law_draws", "_law_draws", defArgs s_law_draws, defBody s_law_draws, defScope s_law_draws, [], []⟩
def d_law_next : He.DefD := ⟨("_law_next", none), "_law_next", "_law_next", defArgs s_law_next, defBody s_law_next, defScope s_law_next, [], []⟩
def d_law_train : He.DefD := ⟨("_law_train", none), "_law_train", "_law_train", defArgs s_law_train, defBody s_law_train, defScope s_law_train, [], []⟩
def d_law_stand : He.DefD := ⟨("_law_stand", none), "_law_stand", "_law_stand", defArgs s_law_stand, defBody s_law_stand, defScope s_law_stand, [], []⟩
def d_law_seen : He.DefD := ⟨("_law_seen", none), "_law_seen", "_law_seen", defArgs s_law_seen, defBody s_law_seen, defScope s_law_seen, [], []⟩
def d_law_back : He.DefD := ⟨("_law_back", none), "_law_back", "_law_back", defArgs s_law_back, defBody s_law_back, defScope s_law_back, [], []⟩
def d_law_row_well : He.DefD := ⟨("_law_row_well", none), "_law_row_well", "_law_row_well", defArgs s_law_row_well, defBody s_law_row_well, defScope s_law_row_well, [], []⟩
def d_law_lists_well : He.DefD := ⟨("_law_lists_well", none), "_law_lists_well", "_law_lists_well", defArgs s_law_lists_well, defBody s_law_lists_well, defScope s_law_lists_well, [], []⟩
def d_law : He.DefD := ⟨("law", none), "law", "law", defArgs s_law, defBody s_law, defScope s_law, [], []⟩
def fnP0 : List He.DefD := [d_is_whole, d_is_marks, d_is_part, d_check_train, d_places, d_is_stand, d_check_stand, d_marks_met, d_marks_left, d_part_pushed, d_pushed_often, d_pushed, d_stand_count, d_sure, d_count_in, d_way_in, d_way_shown, d_listed, d_words_in, d_part_shown, d_part_in, d_show_train, d_read_train, d_show_stand, d_read_stand, d_step_shown, d_push_in, d_deed_in, d_show_row, d_read_row]
def fnP1 : List He.DefD := [d_show_pushes, d_read_pushes, d_shown_in, d_show_shown, d_read_shown, d_show_shows, d_read_shows, d_two_shown, d_show_answer, d_two_in, d_pair_in, d_bar_in, d_numbered_in, d_steps_in, d_wheel_in, d_read_answer, d_pair_pushed, d_trains_alike, d_is_pair, d_shows_alike, d_are_apart, d_is_way, d_are_closed, d_is_show_makes, d_check_shows, d_own_ways, d_ways_behind, d_teeth_passed, d_first_wrong, d_place_of]
def fnP2 : List He.DefD := [d_first_two, d_marks_shown, d_smallest_by, d_is_two, d_does_shows, d_is_none_by, d_is_smallest_by, d_smallest, d_is_smallest, d_smallest_behind, d_is_smallest_behind, d_is_deed, d_check_row, d_walked, d_left, d_check_keys, d_check_goal, d_all_pushes, d_push_ends, d_deed_ends, d_least_by, d_least_pushes, d_fewest_deeds, d_is_push, d_is_numbered, d_numbers_hold, d_is_paper, d_shows_row, d_shows_deeds, d_shows_never]
def fnP3 : List He.DefD := [d_wears, d_worn, d_is_show_worn, d_shows_just, d_explained, d_law_draws, d_law_next, d_law_train, d_law_stand, d_law_seen, d_law_back, d_law_row_well, d_law_lists_well, d_law]
def fn : List He.DefD := fnP0 ++ fnP1 ++ fnP2 ++ fnP3
def faP0 : List He.Fa := [.glo "is_whole", .glo "is_marks", .glo "is_part", .glo "check_train", .glo "places", .glo "is_stand", .glo "check_stand", .glo "marks_met", .glo "marks_left", .glo "part_pushed", .glo "pushed_often", .glo "pushed", .glo "stand_count", .glo "sure", .glo "count_in", .glo "way_in", .glo "way_shown", .glo "listed", .glo "words_in", .glo "part_shown", .glo "part_in", .glo "show_train", .glo "read_train", .glo "show_stand", .glo "read_stand", .glo "step_shown", .glo "push_in", .glo "deed_in", .glo "show_row", .glo "read_row"]
def faP1 : List He.Fa := [.glo "show_pushes", .glo "read_pushes", .glo "shown_in", .glo "show_shown", .glo "read_shown", .glo "show_shows", .glo "read_shows", .glo "two_shown", .glo "show_answer", .glo "two_in", .glo "pair_in", .glo "bar_in", .glo "numbered_in", .glo "steps_in", .glo "wheel_in", .glo "read_answer", .glo "pair_pushed", .glo "trains_alike", .glo "is_pair", .glo "shows_alike", .glo "are_apart", .glo "is_way", .glo "are_closed", .glo "is_show_makes", .glo "check_shows", .glo "own_ways", .glo "ways_behind", .glo "teeth_passed", .glo "first_wrong", .glo "place_of"]
def faP2 : List He.Fa := [.glo "first_two", .glo "marks_shown", .glo "smallest_by", .glo "is_two", .glo "does_shows", .glo "is_none_by", .glo "is_smallest_by", .glo "smallest", .glo "is_smallest", .glo "smallest_behind", .glo "is_smallest_behind", .glo "is_deed", .glo "check_row", .glo "walked", .glo "left", .glo "check_keys", .glo "check_goal", .glo "all_pushes", .glo "push_ends", .glo "deed_ends", .glo "least_by", .glo "least_pushes", .glo "fewest_deeds", .glo "is_push", .glo "is_numbered", .glo "numbers_hold", .glo "is_paper", .glo "shows_row", .glo "shows_deeds", .glo "shows_never"]
def faP3 : List He.Fa := [.glo "wears", .glo "worn", .glo "is_show_worn", .glo "shows_just", .glo "explained", .glo "_law_draws", .glo "_law_next", .glo "_law_train", .glo "_law_stand", .glo "_law_seen", .glo "_law_back", .glo "_law_row_well", .glo "_law_lists_well", .glo "law", .free "isinstance", .free "int", .free "bool", .free "tuple", .free "str", .free "list", .free "len", .free "all", .free "zip", .free "range", .free "enumerate", .free "sorted", .free "max", .free "dict", .str "FIGURES" "0123456789", .int "LONGEST" 40]
def faP4 : List He.Fa := [.int "MOST_STANDS" 500]
def fa : List He.Fa := faP0 ++ faP1 ++ faP2 ++ faP3 ++ faP4
def nmP0 : List Str := ["TrainError", "NoTrain", "NoStand", "NoRow", "TooMany", "NoText", "is_whole", "is_marks", "is_part", "check_train", "places", "is_stand", "check_stand", "marks_met", "marks_left", "part_pushed", "pushed_often", "pushed", "stand_count", "FIGURES", "LONGEST", "sure", "count_in", "way_in", "way_shown", "listed", "words_in", "part_shown", "part_in", "show_train"]
def nmP1 : List Str := ["read_train", "show_stand", "read_stand", "step_shown", "push_in", "deed_in", "show_row", "read_row", "show_pushes", "read_pushes", "shown_in", "show_shown", "read_shown", "show_shows", "read_shows", "two_shown", "show_answer", "two_in", "pair_in", "bar_in", "numbered_in", "steps_in", "wheel_in", "read_answer", "pair_pushed", "trains_alike", "is_pair", "shows_alike", "are_apart", "is_way"]
def nmP2 : List Str := ["are_closed", "is_show", "is_show_makes", "check_shows", "own_ways", "ways_behind", "teeth_passed", "first_wrong", "place_of", "first_two", "marks_shown", "smallest_by", "is_two", "does_shows", "is_none_by", "is_smallest_by", "smallest", "is_smallest", "smallest_behind", "is_smallest_behind", "is_deed", "check_row", "walked", "left", "MOST_STANDS", "check_keys", "check_goal", "all_pushes", "push_ends", "deed_ends"]
def nmP3 : List Str := ["least_by", "least_pushes", "fewest_deeds", "is_push", "is_numbered", "numbers_hold", "is_paper", "shows_row", "shows_deeds", "shows_never", "wears", "worn", "is_show_worn", "shows_just", "explained", "_law_draws", "_law_next", "_law_train", "_law_stand", "_law_seen", "_law_back", "_law_row_well", "_law_lists_well"]
def nms : List Str := nmP0 ++ nmP1 ++ nmP2 ++ nmP3
abbrev R : PySem.W.OpenRow := PySem.W.OpenLaw.row PySem.Challenge.rw_clicktrain_k76_whole_answers_there_and_b
abbrev hk : PySem.W.Hook := He.hookD 2 fa fn
def ob (s : PySem.W.SharedT) : He.AlD := He.obsDG 2 fa fn (HandSHeadRun.getT s)
theorem ob_eq (s : PySem.W.SharedT) : ob s = hk.obs s.abs := He.obsDG_eq (HandSHeadRun.getT_eq s)
theorem run (w : World) : HandSHeadRun.RunEq R (PySem.W.view R.prog [123]) hk ob 8000 nms w := by
  intro os
  kernel_rfl
end Ct

-- DL1
set_option Elab.async false
set_option linter.all false
set_option maxRecDepth 100000
set_option maxHeartbeats 1000000
/-! DL1: the data layer: what a slot holds (Sl), a state told by data (StOk), readings by data (tD, tDT, tDA, tDS), their first laws. -/
namespace Ct
open PySem PySem.Spec L2

/-! nested keys of a dict, from data -/
mutual
def nkOf : PyData → Option NestedKey
  | .int i => some (.num i)
  | .tuple ds => (nksOf ds).map .tup
  | _ => none
def nksOf : List PyData → Option (List NestedKey)
  | [] => some []
  | d :: ds => match nkOf d, nksOf ds with
    | some k, some ks => some (k :: ks)
    | _, _ => none
end

/-! data in a heap: lists and tuples are tracked -/
mutual
inductive Dt (G : Hp) : V → PyData → Prop
  | non : Dt G .non .none
  | bl (b : Bool) : Dt G (.bl b) (.bool b)
  | int (i : Int) : Dt G (.int i) (.int i)
  | str (x : Str) : Dt G (.str x) (.str x)
  | lst {a : Addr} {xs : List V} {ds : List PyData} : G a = some (.lst xs) → DtAll G xs ds → Dt G (.ref a) (.list ds)
  | tup {a : Addr} {xs : List V} {ds : List PyData} : G a = some (.tup xs) → DtAll G xs ds → Dt G (.ref a) (.tuple ds)
inductive DtAll (G : Hp) : List V → List PyData → Prop
  | nil : DtAll G [] []
  | cons {v : V} {vs : List V} {d : PyData} {ds : List PyData} : Dt G v d → DtAll G vs ds → DtAll G (v :: vs) (d :: ds)
end
mutual
theorem Dt.dp {K : PySem.W.Frag} {G : Hp} : ∀ (d : PyData) {v : V}, Dt G v d → Dp K G v d
  | .none, _, h => by cases h; exact .non
  | .bool b, _, h => by cases h; exact .bl b
  | .int i, _, h => by cases h; exact .int i
  | .str x, _, h => by cases h; exact .str x
  | .list ds, _, h => by cases h with | lst hs ha => exact .lst (.inl (.inl hs)) (Dt.dpAll ds ha)
  | .tuple ds, _, h => by cases h with | tup hs ha => exact .tup (.inl (.inl hs)) (Dt.dpAll ds ha)
  | .dict _, _, h => by cases h
theorem Dt.dpAll {K : PySem.W.Frag} {G : Hp} : ∀ (ds : List PyData) {vs : List V}, DtAll G vs ds → DpAll K G vs ds
  | [], _, h => by cases h; exact .nil
  | d :: ds, _, h => by cases h with | cons h1 h2 => exact .cons (Dt.dp d h1) (Dt.dpAll ds h2)
end

/-- what a slot holds -/
inductive Sl where
  | any
  | dat (d : PyData)
  | fn (f : Addr)
  | lst (ds : List PyData)
  | dct (kvs : List (PyData × PyData))
  | dki (kvs : List (Int × PyData))
  | lsa (p : Addr) (ds : List PyData)

section
variable (P : Program) (w : World)
/-- an exact dict with nested keys, by its entries: key, the key's address, the value -/
def DictRaw3 (h : Heap) (a : Addr) (zs : List (NestedKey × Addr × V)) : Prop :=
  zs.length ≤ sizeLine ∧ (a == sysModules) = false ∧ ∃ xs : List (NestedKey × Addr × Value), Paired (fun (p : NestedKey × Addr × V) (q : NestedKey × Addr × Value) => p.1 = q.1 ∧ p.2.1 = q.2.1 ∧ RelV p.2.2 q.2.2) zs xs ∧
    ∃ o es ep, h.get? a = some o ∧ o.ExactDict ∧ o.data = .dict es ep ∧ es.toList = xs.map (entryOfKey (nestedKind P w)) ∧ (xs.map (·.1)).Nodup
def dHO (a : Addr) (zs : List (NestedKey × Addr × V)) : HO := .ext fun h => DictRaw3 P w h a zs
/-- the entries by data -/
def DkOk (G : Hp) (z : NestedKey × Addr × V) (kv : PyData × PyData) : Prop := nkOf kv.1 = some z.1 ∧ z.1.depth ≤ 8 ∧ Dt G (.ref z.2.1) kv.1 ∧ Dt G z.2.2 kv.2
def DiOk (G : Hp) (z : Key × V) (kv : Int × PyData) : Prop := z.1 = Sum.inl kv.1 ∧ Dt G z.2 kv.2

def SlOk (G H : Hp) : Sl → Option V → Prop
  | .any, _ => True
  | .dat d, some v => Dt G v d
  | .fn f, some v => v = .ref f
  | .lst ds, some v => ∃ p xs, v = .ref p ∧ H p = some (.lst xs) ∧ DtAll G xs ds
  | .dct kvs, some v => ∃ p zs, v = .ref p ∧ H p = some (dHO P w p zs) ∧ Paired (DkOk G) zs kvs
  | .dki kvs, some v => ∃ p zs, v = .ref p ∧ H p = some (.dK zs) ∧ Paired (DiOk G) zs kvs
  | .lsa q ds, some v => ∃ xs, v = .ref q ∧ H q = some (.lst xs) ∧ DtAll G xs ds
  | _, none => False
end
/-- the address of a slot's own object -/
def ownAt : Sl → Option V → Option Addr
  | .lst _, some (.ref p) => some p
  | .dct _, some (.ref p) => some p
  | .dki _, some (.ref p) => some p
  | .lsa _ _, some (.ref p) => some p
  | _, _ => none
/-- a value told by data -/
def VOk (G : Hp) (v : V) : Sl → Prop
  | .dat d => Dt G v d
  | .fn f => v = .ref f
  | _ => False

structure StOk (P : Program) (w : World) (G0 H0 : Hp) (δ : List Sl) (σ : St) (G H : Hp) : Prop where
  gg : Same G0 G
  hh : Same H0 H
  gh : Same G H
  sep : ∀ b o, H0 b = some o → G0 b = none → G b = none
  len : δ.length ≤ σ.length
  sl : ∀ (i : Nat) (s : Sl), δ[i]? = some s → SlOk P w G H s (σ[i]?.join)
  own : ∀ (i : Nat) (s : Sl) (p : Addr), δ[i]? = some s → ownAt s (σ[i]?.join) = some p → H0 p = none ∧ G p = none
  dis : ∀ (i j : Nat) (s t : Sl) (p : Addr), i ≠ j → δ[i]? = some s → δ[j]? = some t → ownAt s (σ[i]?.join) = some p → ownAt t (σ[j]?.join) ≠ some p

/-- a pure step: G grows, the rest of the heap stands -/
structure Ext (G H G' H' : Hp) : Prop where
  gg : Same G G'
  hh : Same H H'
  gh : Same G' H'
  sep : ∀ b o, H b = some o → G b = none → G' b = none

section
variable {P : Program} {w : World} {G G' G1 H H' H1 G0 H0 : Hp} {δ : List Sl} {σ : St}
theorem Same.rd (e : Same H H') {a : Addr} {u : HO} (h : Rd H a u) : Rd H' a u := h.elim (fun h => .inl (e _ _ h)) fun ⟨o, h⟩ => .inr ⟨o, e _ _ h⟩
theorem Same.sqL {K : PySem.W.Frag} (e : Same H H') {a : Addr} {xs : List V} (h : SqL K H a xs) : SqL K H' a xs := h.elim (fun h => .inl (Same.rd e h)) .inr
theorem Same.sqT {K : PySem.W.Frag} (e : Same H H') {a : Addr} {xs : List V} (h : SqT K H a xs) : SqT K H' a xs := h.elim (fun h => .inl (Same.rd e h)) .inr
mutual
theorem Dt.mono (e : Same G G') : ∀ (d : PyData) {v : V}, Dt G v d → Dt G' v d
  | .none, _, h => by cases h; exact .non
  | .bool b, _, h => by cases h; exact .bl b
  | .int i, _, h => by cases h; exact .int i
  | .str x, _, h => by cases h; exact .str x
  | .list ds, _, h => by cases h with | lst hs ha => exact .lst (e _ _ hs) (Dt.monoAll e ds ha)
  | .tuple ds, _, h => by cases h with | tup hs ha => exact .tup (e _ _ hs) (Dt.monoAll e ds ha)
  | .dict _, _, h => by cases h
theorem Dt.monoAll (e : Same G G') : ∀ (ds : List PyData) {vs : List V}, DtAll G vs ds → DtAll G' vs ds
  | [], _, h => by cases h; exact .nil
  | d :: ds, _, h => by cases h with | cons h1 h2 => exact .cons (Dt.mono e d h1) (Dt.monoAll e ds h2)
end
theorem Dt.up (h : Dt G v d) (e : Same G G') : Dt G' v d := Dt.mono e d h
theorem DtAll.up (h : DtAll G vs ds) (e : Same G G') : DtAll G' vs ds := Dt.monoAll e ds h
theorem VOk.up {v : V} {s : Sl} (h : VOk G v s) (e : Same G G') : VOk G' v s := by
  cases s with
  | dat d => exact Dt.mono e d h
  | fn f => exact h
  | any => exact h
  | lst ds => exact h
  | dct kvs => exact h
  | dki kvs => exact h
  | lsa q ds => exact h
theorem DkOk.up {z : NestedKey × Addr × V} {kv : PyData × PyData} (h : DkOk G z kv) (e : Same G G') : DkOk G' z kv := ⟨h.1, h.2.1, Dt.mono e _ h.2.2.1, Dt.mono e _ h.2.2.2⟩
theorem DiOk.up {z : Key × V} {kv : Int × PyData} (h : DiOk G z kv) (e : Same G G') : DiOk G' z kv := ⟨h.1, Dt.mono e _ h.2⟩
theorem DtAll.length {vs : List V} : ∀ {ds : List PyData}, DtAll G vs ds → vs.length = ds.length := by
  induction vs with
  | nil => intro ds h; cases h; rfl
  | cons v vs ih => intro ds h; cases h with | cons h1 h2 => simp [ih h2]
theorem DtAll.get : ∀ {vs : List V} {ds : List PyData} {i : Nat} {d : PyData}, DtAll G vs ds → ds[i]? = some d → ∃ v, vs[i]? = some v ∧ Dt G v d
  | [], _, i, _, h, e => by cases h; simp at e
  | v :: vs, _, 0, _, .cons h1 h2, e => by cases e; exact ⟨v, rfl, h1⟩
  | v :: vs, _, i + 1, _, .cons h1 h2, e => DtAll.get (vs := vs) (i := i) h2 (by simpa using e)
theorem DtAll.get' : ∀ {vs : List V} {ds : List PyData} {i : Nat} {v : V}, DtAll G vs ds → vs[i]? = some v → ∃ d, ds[i]? = some d ∧ Dt G v d
  | [], _, i, _, h, e => by simp at e
  | v :: vs, _, 0, _, .cons h1 h2, e => by cases e; exact ⟨_, rfl, h1⟩
  | v :: vs, _, i + 1, _, .cons h1 h2, e => DtAll.get' (vs := vs) (i := i) h2 (by simpa using e)
theorem DtAll.append {vs us : List V} : ∀ {ds es : List PyData}, DtAll G vs ds → DtAll G us es → DtAll G (vs ++ us) (ds ++ es) := by
  induction vs with
  | nil => intro ds es h h'; cases h; exact h'
  | cons v vs ih => intro ds es h h'; cases h with | cons h1 h2 => exact .cons h1 (ih h2 h')
theorem DtAll.take {vs : List V} : ∀ {ds : List PyData} (n : Nat), DtAll G vs ds → DtAll G (vs.take n) (ds.take n) := by
  induction vs with
  | nil => intro ds n h; cases h; simp; exact .nil
  | cons v vs ih =>
    intro ds n h
    cases h with
    | cons h1 h2 =>
      cases n with
      | zero => exact .nil
      | succ n => exact .cons h1 (ih n h2)
theorem DtAll.drop {vs : List V} : ∀ {ds : List PyData} (n : Nat), DtAll G vs ds → DtAll G (vs.drop n) (ds.drop n) := by
  induction vs with
  | nil => intro ds n h; cases h; simp; exact .nil
  | cons v vs ih =>
    intro ds n h
    cases h with
    | cons h1 h2 =>
      cases n with
      | zero => exact .cons h1 h2
      | succ n => exact ih n h2
theorem DtAll.setAt {vs : List V} {v : V} {d : PyData} (hv : Dt G v d) : ∀ {ds : List PyData} (n : Nat), DtAll G vs ds → DtAll G (vs.set n v) (ds.set n d) := by
  induction vs with
  | nil => intro ds n h; cases h; exact .nil
  | cons u vs ih =>
    intro ds n h
    cases h with
    | cons h1 h2 =>
      cases n with
      | zero => exact .cons hv h2
      | succ n => exact .cons h1 (ih n h2)

theorem Ext.refl (h : Same G H) : Ext G H G H := ⟨fun _ _ h => h, fun _ _ h => h, h, fun _ _ _ h => h⟩
theorem same_trans {A B C : Hp} (a : Same A B) (b : Same B C) : Same A C := fun c o h => b c o (a c o h)
theorem same_refl (A : Hp) : Same A A := fun _ _ h => h
theorem same_none {A B : Hp} (e : Same A B) {p : Addr} (h : B p = none) : A p = none := by
  cases q : A p with
  | none => rfl
  | some o => rw [e p o q] at h; cases h
theorem same_new {H : Hp} {p : Addr} {o : HO} (h : H p = none) : Same H (upd H p o) := fun b u q => by rw [upd_ne (ne_of_none q h)]; exact q
theorem same_upd2 {G H : Hp} {p : Addr} {o : HO} (e : Same G H) : Same (upd G p o) (upd H p o) := fun b u q => by
  by_cases hb : b = p
  · subst hb; rw [upd_same] at q ⊢; exact q
  · rw [upd_ne hb] at q ⊢; exact e _ _ q
theorem Ext.trans {G2 H2 : Hp} (a : Ext G H G1 H1) (b : Ext G1 H1 G2 H2) : Ext G H G2 H2 :=
  ⟨same_trans a.gg b.gg, same_trans a.hh b.hh, b.gh, fun c o e n => b.sep c o (a.hh c o e) (a.sep c o e n)⟩
/-- a new object, part of the data from then on -/
theorem Ext.new {p : Addr} {o : HO} (g : Same G H) (h : H p = none) : Ext G H (upd G p o) (upd H p o) :=
  ⟨same_new (same_none g h), same_new h, same_upd2 g, fun b u e n => by rw [upd_ne (ne_of_none e h)]; exact n⟩
theorem ownAt_some {s : Sl} {o : Option V} {p : Addr} (h : ownAt s o = some p) : o = some (.ref p) := by
  cases s with
  | lst ds => cases o with | none => cases h | some v => cases v <;> first | (cases h; rfl) | cases h
  | dct ds => cases o with | none => cases h | some v => cases v <;> first | (cases h; rfl) | cases h
  | dki ds => cases o with | none => cases h | some v => cases v <;> first | (cases h; rfl) | cases h
  | lsa q ds => cases o with | none => cases h | some v => cases v <;> first | (cases h; rfl) | cases h
  | any => cases h
  | dat d => cases h
  | fn f => cases h
/-- a slot's own object is there -/
theorem SlOk.there {s : Sl} {o : Option V} {p : Addr} (h : SlOk P w G H s o) (e : ownAt s o = some p) : ∃ u, H p = some u := by
  have eo := ownAt_some e
  subst eo
  cases s with
  | lst ds => obtain ⟨q, xs, z, hp, _⟩ := h; cases z; exact ⟨_, hp⟩
  | dct ds => obtain ⟨q, xs, z, hp, _⟩ := h; cases z; exact ⟨_, hp⟩
  | dki ds => obtain ⟨q, xs, z, hp, _⟩ := h; cases z; exact ⟨_, hp⟩
  | lsa q ds => obtain ⟨xs, z, hp, _⟩ := h; cases z; cases e; exact ⟨_, hp⟩
  | any => cases e
  | dat d => cases e
  | fn f => cases e
/-- a slot stands over a step that keeps its own object -/
theorem SlOk.up {s : Sl} {o : Option V} (h : SlOk P w G H s o) (e : Same G G') (k : ∀ p u, ownAt s o = some p → H p = some u → H' p = some u) : SlOk P w G' H' s o := by
  cases s with
  | any => cases o <;> trivial
  | dat d => cases o with | none => exact h | some v => exact Dt.mono e d h
  | fn f => cases o with | none => exact h | some v => exact h
  | lst ds => cases o with | none => exact h | some v => obtain ⟨q, xs, rfl, hp, ha⟩ := h; exact ⟨q, xs, rfl, k q _ rfl hp, Dt.monoAll e ds ha⟩
  | dct ds => cases o with | none => exact h | some v => obtain ⟨q, xs, rfl, hp, ha⟩ := h; exact ⟨q, xs, rfl, k q _ rfl hp, Paired.mapP ha fun _ _ z => z.up e⟩
  | dki ds => cases o with | none => exact h | some v => obtain ⟨q, xs, rfl, hp, ha⟩ := h; exact ⟨q, xs, rfl, k q _ rfl hp, Paired.mapP ha fun _ _ z => z.up e⟩
  | lsa q ds => cases o with | none => exact h | some v => obtain ⟨xs, rfl, hp, ha⟩ := h; exact ⟨xs, rfl, k q _ rfl hp, Dt.monoAll e ds ha⟩
theorem StOk.ext (S : StOk P w G0 H0 δ σ G H) (x : Ext G H G' H') : StOk P w G0 H0 δ σ G' H' where
  gg := same_trans S.gg x.gg
  hh := same_trans S.hh x.hh
  gh := x.gh
  sep := fun b o e n => x.sep b o (S.hh b o e) (S.sep b o e n)
  len := S.len
  sl := fun i s e => (S.sl i s e).up x.gg fun p u _ hp => x.hh p u hp
  own := fun i s p e z => by
    obtain ⟨h1, h2⟩ := S.own i s p e z
    obtain ⟨u, hu⟩ := (S.sl i s e).there z
    exact ⟨h1, x.sep p u hu h2⟩
  dis := S.dis
theorem StOk.refl (S : StOk P w G0 H0 δ σ G H) : Ext G H G H := .refl S.gh
/-- the frame of a part: from here, nothing is ours -/
theorem StOk.enter (S : StOk P w G0 H0 δ σ G H) : StOk P w G H ([] : List Sl) σ G H :=
  ⟨same_refl _, same_refl _, S.gh, fun _ _ _ n => n, Nat.zero_le _, fun i s e => by simp at e, fun i s p e => by simp at e, fun i j s t p _ e => by simp at e⟩
theorem StOk.leave (S : StOk P w G H ([] : List Sl) σ G' H') : Ext G H G' H' := ⟨S.gg, S.hh, S.gh, S.sep⟩
/-- less is told -/
def Wk (δ δ' : List Sl) : Prop := ∀ (i : Nat) (s : Sl), δ'[i]? = some s → s = .any ∨ δ[i]? = some s
theorem StOk.weak {δ' : List Sl} (S : StOk P w G0 H0 δ σ G H) (k : Wk δ δ') (hl : δ'.length ≤ δ.length) : StOk P w G0 H0 δ' σ G H where
  gg := S.gg
  hh := S.hh
  gh := S.gh
  sep := S.sep
  len := Nat.le_trans hl S.len
  sl := fun i s e => by
    rcases k i s e with rfl | q
    · cases σ[i]?.join <;> trivial
    · exact S.sl i s q
  own := fun i s p e z => by
    rcases k i s e with rfl | q
    · cases z
    · exact S.own i s p q z
  dis := fun i j s t p hij e1 e2 z => by
    rcases k i s e1 with rfl | q1
    · cases z
    · rcases k j t e2 with rfl | q2
      · exact fun q => by cases q
      · exact S.dis i j s t p hij q1 q2 z
theorem Wk.nil : Wk δ [] := fun i s e => by simp at e
theorem Wk.refl : Wk δ δ := fun i s e => .inr e
theorem join_set_self {σ : St} {i : Nat} {v : Option V} (h : i < σ.length) : (σ.set i v)[i]?.join = v := by rw [List.getElem?_set_self h]; rfl
theorem join_set_ne {σ : St} {i j : Nat} {v : Option V} (h : i ≠ j) : (σ.set i v)[j]?.join = σ[j]?.join := by rw [List.getElem?_set_ne h]
/-- a slot takes a value that is data -/
theorem StOk.store {i : Nat} {v : V} {s : Sl} (S : StOk P w G0 H0 δ σ G H) (r : VOk G v s) : StOk P w G0 H0 (δ.set i s) (σ.set i (some v)) G H := by
  have hv : SlOk P w G H s (some v) := by
    cases s with
    | dat d => exact r
    | fn f => exact r
    | _ => exact False.elim r
  have no : ∀ o, ownAt s o = none := by
    intro o
    cases s with
    | dat d => rfl
    | fn f => rfl
    | _ => exact False.elim r
  refine ⟨S.gg, S.hh, S.gh, S.sep, by rw [List.length_set, List.length_set]; exact S.len, fun j t e => ?_, fun j t p e z => ?_, fun j l t u p hjl e1 e2 z => ?_⟩
  · by_cases hj : i = j
    · subst hj
      have hlt : i < δ.length := by
        have := (List.getElem?_eq_some_iff.mp e).1
        rw [List.length_set] at this; exact this
      rw [List.getElem?_set_self hlt] at e; cases e
      rw [join_set_self (Nat.lt_of_lt_of_le hlt S.len)]; exact hv
    · rw [List.getElem?_set_ne hj] at e
      rw [join_set_ne hj]; exact S.sl j t e
  · by_cases hj : i = j
    · subst hj
      have hlt : i < δ.length := by
        have := (List.getElem?_eq_some_iff.mp e).1
        rw [List.length_set] at this; exact this
      rw [List.getElem?_set_self hlt] at e; cases e
      rw [no] at z; cases z
    · rw [List.getElem?_set_ne hj] at e
      rw [join_set_ne hj] at z; exact S.own j t p e z
  · by_cases hj : i = j
    · subst hj
      have hlt : i < δ.length := by
        have := (List.getElem?_eq_some_iff.mp e1).1
        rw [List.length_set] at this; exact this
      rw [List.getElem?_set_self hlt] at e1; cases e1
      rw [no] at z; cases z
    · rw [List.getElem?_set_ne hj] at e1
      rw [join_set_ne hj] at z
      by_cases hl : i = l
      · subst hl
        have hlt : i < δ.length := by
          have := (List.getElem?_eq_some_iff.mp e2).1
          rw [List.length_set] at this; exact this
        rw [List.getElem?_set_self hlt] at e2; cases e2
        rw [no]; exact fun q => by cases q
      · rw [List.getElem?_set_ne hl] at e2
        rw [join_set_ne hl]; exact S.dis j l t u p hjl e1 e2 z
end
end Ct

-- DL2
set_option Elab.async false
set_option linter.all false
set_option maxRecDepth 100000
set_option maxHeartbeats 1000000
/-! DL2: readings by data; names, constants, operators, comparisons, tests, displays, subscripts. -/
namespace Ct
open PySem PySem.Spec L2

/-- values told by data -/
abbrev VsOk (G : Hp) : List V → List Sl → Prop := Paired fun v s => VOk G v s
/-- an expression's reading by data -/
def tD (P : Program) (w : World) (δ : List Sl) (d : Sl) (δ' : List Sl) : TE := fun σ H Q => ∃ G0 H0 G, StOk P w G0 H0 δ σ G H ∧ ∀ v G' H', Same G G' → StOk P w G0 H0 δ' σ G' H' → VOk G' v d → Q v H'
def tDT (P : Program) (w : World) (δ : List Sl) (b : Bool) (δ' : List Sl) : TT := fun σ H Q => ∃ G0 H0 G, StOk P w G0 H0 δ σ G H ∧ ∀ G' H', Same G G' → StOk P w G0 H0 δ' σ G' H' → Q b H'
def tDA (P : Program) (w : World) (δ : List Sl) (ds : List Sl) (δ' : List Sl) : TA := fun σ H Q => ∃ G0 H0 G, StOk P w G0 H0 δ σ G H ∧ ∀ vs G' H', Same G G' → StOk P w G0 H0 δ' σ G' H' → VsOk G' vs ds → Q vs H'
abbrev PED (X : Cx) (δ : List Sl) (e : Expr) (d : Sl) (δ' : List Sl) : Prop := PE X e (tD X.prog X.w δ d δ')
abbrev PTD (X : Cx) (δ : List Sl) (e : Expr) (b : Bool) (δ' : List Sl) : Prop := PT X e (tDT X.prog X.w δ b δ')
abbrev PAD (X : Cx) (δ : List Sl) (es : List Expr) (ds : List Sl) (δ' : List Sl) : Prop := PA X es (tDA X.prog X.w δ ds δ')
abbrev D (d : PyData) : Sl := .dat d

section
variable {X : Cx} {e a b c : Expr} {δ δ1 δ2 δ3 δ' : List Sl} {pos : Pos}
theorem _root_.L2.PE.imp {t t' : TE} (h : PE X e t) (k : ∀ σ H Q, t' σ H Q → t σ H Q) : PE X e t' := ⟨fun pins s σ H Q I q => h.run pins s σ H Q I (k σ H Q q)⟩
theorem _root_.L2.PT.imp {t t' : TT} (h : PT X e t) (k : ∀ σ H Q, t' σ H Q → t σ H Q) : PT X e t' := ⟨fun pins s σ H Q I q => h.run pins s σ H Q I (k σ H Q q)⟩
theorem _root_.L2.PA.imp {es : List Expr} {t t' : TA} (h : PA X es t) (k : ∀ σ H Q, t' σ H Q → t σ H Q) : PA X es t' := ⟨fun pos pins s σ H Q I q => h.run pos pins s σ H Q I (k σ H Q q)⟩
theorem VsOk.up {G G' : Hp} {vs : List V} {ds : List Sl} (h : VsOk G vs ds) (e : Same G G') : VsOk G' vs ds := Paired.mapP h fun _ _ z => VOk.up z e
/-- the same by an equation -/
theorem PED.eq {d d' : PyData} (h : PED X δ e (D d) δ') (q : d = d') : PED X δ e (D d') δ' := by subst q; exact h
theorem PTD.eq {t t' : Bool} (h : PTD X δ e t δ') (q : t = t') : PTD X δ e t' δ' := by subst q; exact h

/-! ### names, constants -/
theorem pd_var (i : Nat) {x : Str} {d : PyData} (hd : δ[i]? = some (D d)) (hN : X.N[i]? = some x := by rfl) (hv : Vis X.env.scope x := by first | exact Or.inl rfl | exact Or.inr (Or.inl rfl) | exact Or.inr (Or.inr rfl))
    (hdb : (x == ("__debug__" : Str)) = false := by decide) (hcd : (x == ("__classdict__" : Str)) = false := by decide) : PED X δ (.Name x pos) (D d) δ :=
  (pe_var hN hv hdb hcd).imp fun σ H Q ⟨G0, H0, G, S, q⟩ => by
    have h := S.sl i _ hd
    cases e : σ[i]? with
    | none => rw [e] at h; exact False.elim h
    | some o =>
      rw [e] at h
      cases o with
      | none => exact False.elim h
      | some v => exact ⟨v, e, q v G H (same_refl _) S h⟩
theorem pd_varf (i : Nat) {x : Str} {f : Addr} (hd : δ[i]? = some (.fn f)) (hN : X.N[i]? = some x := by rfl) (hv : Vis X.env.scope x := by first | exact Or.inl rfl | exact Or.inr (Or.inl rfl) | exact Or.inr (Or.inr rfl))
    (hdb : (x == ("__debug__" : Str)) = false := by decide) (hcd : (x == ("__classdict__" : Str)) = false := by decide) : PED X δ (.Name x pos) (.fn f) δ :=
  (pe_var hN hv hdb hcd).imp fun σ H Q ⟨G0, H0, G, S, q⟩ => by
    have h := S.sl i _ hd
    cases e : σ[i]? with
    | none => rw [e] at h; exact False.elim h
    | some o =>
      rw [e] at h
      cases o with
      | none => exact False.elim h
      | some v => exact ⟨v, e, q v G H (same_refl _) S h⟩
theorem pd_c {v : V} {d : Sl} (h : PE X e (tC v)) (r : ∀ G, VOk G v d) : PED X δ e d δ :=
  h.imp fun σ H Q ⟨G0, H0, G, S, q⟩ => q v G H (same_refl _) S (r G)
theorem pd_int {i : Int} {j pos} : PED X δ (.Constant (.int i) j pos) (D (.int i)) δ := pd_c pe_int fun _ => .int i
theorem pd_bl {b : Bool} {j pos} : PED X δ (.Constant (.bool b) j pos) (D (.bool b)) δ := pd_c pe_bl fun _ => .bl b
theorem pd_non {j pos} : PED X δ (.Constant .none j pos) (D .none) δ := pd_c pe_non fun _ => .non
theorem pd_str {x : Str} {j pos} : PED X δ (.Constant (.str x) j pos) (D (.str x)) δ := pd_c pe_str fun _ => .str x
theorem pd_gstr {x z : Str} {t : Tok} (hg : Gl X x) (hm : X.mg x = some (.str z t)) (hdb : (x == ("__debug__" : Str)) = false := by decide) : PED X δ (.Name x pos) (D (.str z)) δ := pd_c (v := .str z) (pe_glob hg hm ⟨_, rfl⟩ hdb) fun _ => .str z
theorem pd_gint {x : Str} {i : Int} {t : Tok} (hg : Gl X x) (hm : X.mg x = some (.int i t)) (hdb : (x == ("__debug__" : Str)) = false := by decide) : PED X δ (.Name x pos) (D (.int i)) δ := pd_c (v := .int i) (pe_glob hg hm ⟨_, rfl⟩ hdb) fun _ => .int i
theorem pd_gfn {x : Str} {f : Addr} (hg : Gl X x) (hm : X.mg x = some (.ref f)) (hdb : (x == ("__debug__" : Str)) = false := by decide) : PED X δ (.Name x pos) (.fn f) δ := pd_c (v := .ref f) (pe_glob hg hm rfl hdb) fun _ => rfl
end

/-! ### operations on values -/
/-- an operation on values, by data -/
def DOp (r : R2) (d e res : Sl) : Prop := ∀ (G H : Hp) (x y : V) (Q : VK), Same G H → VOk G x d → VOk G y e → (∀ v G' H', Ext G H G' H' → VOk G' v res → Q v H') → r x y H Q
def DUn (r : V → Hp → VK → Prop) (d res : Sl) : Prop := ∀ (G H : Hp) (x : V) (Q : VK), Same G H → VOk G x d → (∀ v G' H', Ext G H G' H' → VOk G' v res → Q v H') → r x H Q
/-- a call of a known value, by data -/
def DCall (r : List V → Hp → VK → Prop) (ds : List Sl) (res : Sl) : Prop := ∀ (G H : Hp) (xs : List V) (Q : VK), Same G H → VsOk G xs ds → (∀ v G' H', Ext G H G' H' → VOk G' v res → Q v H') → r xs H Q
section
variable {P : Program} {w : World} {δ δ1 δ2 δ3 : List Sl} {σ : L2.St} {H : Hp} {r : R2} {d e res : Sl}
theorem tD_op (k : DOp r d e res) {Q : VK} (h : tD P w δ res δ2 σ H Q) : tOp r (tD P w δ d δ1) (tD P w δ1 e δ2) σ H Q := by
  obtain ⟨G0, H0, G, S, q⟩ := h
  exact ⟨G0, H0, G, S, fun x G1 H1 g1 S1 rx => ⟨G0, H0, G1, S1, fun y G2 H2 g2 S2 ry => k G2 H2 x y Q S2.gh (VOk.up rx g2) ry fun v G3 H3 e3 rv =>
    q v G3 H3 (same_trans g1 (same_trans g2 e3.gg)) (S2.ext e3) rv⟩⟩
theorem tD_un {r : V → Hp → VK → Prop} (k : DUn r d res) {Q : VK} (h : tD P w δ res δ1 σ H Q) : tUn r (tD P w δ d δ1) σ H Q := by
  obtain ⟨G0, H0, G, S, q⟩ := h
  exact ⟨G0, H0, G, S, fun x G1 H1 g1 S1 rx => k G1 H1 x Q S1.gh rx fun v G3 H3 e3 rv => q v G3 H3 (same_trans g1 e3.gg) (S1.ext e3) rv⟩
theorem tD_call {r : List V → Hp → VK → Prop} {ds : List Sl} (k : DCall r ds res) {Q : VK} (h : tD P w δ res δ1 σ H Q) : tCB r (tDA P w δ ds δ1) σ H Q := by
  obtain ⟨G0, H0, G, S, q⟩ := h
  exact ⟨G0, H0, G, S, fun x G1 H1 g1 S1 rx => k G1 H1 x Q S1.gh rx fun v G3 H3 e3 rv => q v G3 H3 (same_trans g1 e3.gg) (S1.ext e3) rv⟩
/-- a value of no new object -/
theorem Ext.here {G H : Hp} {v : V} {s : Sl} {Q : VK} (g : Same G H) (q : ∀ v G' H', Ext G H G' H' → VOk G' v s → Q v H') (r : VOk G v s) : Q v H := q v G H (.refl g) r
/-- a new list, a new tuple of data -/
theorem Ext.lst {G H : Hp} {xs : List V} {ds : List PyData} {Q : VK} (g : Same G H) (q : ∀ v G' H', Ext G H G' H' → VOk G' v (D (.list ds)) → Q v H') (r : DtAll G xs ds) : ∀ p, H p = none → Q (.ref p) (upd H p (.lst xs)) := fun p hp =>
  q _ (upd G p (.lst xs)) _ (.new g hp) (Dt.lst upd_same (DtAll.up r (same_new (same_none g hp))))
theorem Ext.tup {G H : Hp} {xs : List V} {ds : List PyData} {Q : VK} (g : Same G H) (q : ∀ v G' H', Ext G H G' H' → VOk G' v (D (.tuple ds)) → Q v H') (r : DtAll G xs ds) : ∀ p, H p = none → Q (.ref p) (upd H p (.tup xs)) := fun p hp =>
  q _ (upd G p (.tup xs)) _ (.new g hp) (Dt.tup upd_same (DtAll.up r (same_new (same_none g hp))))
end
theorem dt_int {G : Hp} {v : V} {i : Int} (h : VOk G v (D (.int i))) : v = .int i := by cases (show Dt G v (.int i) from h); rfl
theorem dt_str {G : Hp} {v : V} {i : Str} (h : VOk G v (D (.str i))) : v = .str i := by cases (show Dt G v (.str i) from h); rfl
theorem dt_bl {G : Hp} {v : V} {i : Bool} (h : VOk G v (D (.bool i))) : v = .bl i := by cases (show Dt G v (.bool i) from h); rfl
theorem dt_non {G : Hp} {v : V} (h : VOk G v (D .none)) : v = .non := by cases (show Dt G v .none from h); rfl
theorem dt_lst {G : Hp} {v : V} {ds : List PyData} (h : VOk G v (D (.list ds))) : ∃ a xs, v = .ref a ∧ G a = some (.lst xs) ∧ DtAll G xs ds := by
  cases (show Dt G v (.list ds) from h) with
  | lst h1 h2 => exact ⟨_, _, rfl, h1, h2⟩
theorem dt_tup {G : Hp} {v : V} {ds : List PyData} (h : VOk G v (D (.tuple ds))) : ∃ a xs, v = .ref a ∧ G a = some (.tup xs) ∧ DtAll G xs ds := by
  cases (show Dt G v (.tuple ds) from h) with
  | tup h1 h2 => exact ⟨_, _, rfl, h1, h2⟩
def isNon : PyData → Bool
  | .none => true
  | _ => false
theorem dt_not_none {G : Hp} {v : V} {d : PyData} (h : Dt G v d) : decide (v = .non) = isNon d := by
  cases h <;> rfl

/-! ### arithmetic -/
inductive BinD : Operator → PyData → PyData → PyData → Prop
  | addI {i j : Int} : BinD .Add (.int i) (.int j) (.int (i + j))
  | subI {i j : Int} : BinD .Sub (.int i) (.int j) (.int (i - j))
  | mulI {i j : Int} (h : CMul i j) : BinD .Mult (.int i) (.int j) (.int (i * j))
  | divI {i j : Int} (h : CDiv i j) : BinD .FloorDiv (.int i) (.int j) (.int (i / j))
  | modI {i j : Int} (h : 0 < j) : BinD .Mod (.int i) (.int j) (.int (i % j))
  | addS {x y : Str} (h : x.length + y.length ≤ sizeLine) : BinD .Add (.str x) (.str y) (.str (x ++ y))
  | addL {xs ys : List PyData} (h : xs.length + ys.length ≤ sizeLine) : BinD .Add (.list xs) (.list ys) (.list (xs ++ ys))
  | addT {xs ys : List PyData} (h : xs.length + ys.length ≤ sizeLine) : BinD .Add (.tuple xs) (.tuple ys) (.tuple (xs ++ ys))
section
variable {X : Cx} {e a b c : Expr} {δ δ1 δ2 δ3 δ' : List Sl} {pos : Pos} {d1 d2 r : PyData}
theorem dop_I0 {g : Int → Int → Int} {i j : Int} : DOp (rI0 fun i j => .int (g i j)) (D (.int i)) (D (.int j)) (D (.int (g i j))) := fun G H x y Q g' rx ry q =>
  ⟨i, j, dt_int rx, dt_int ry, Ext.here g' q (Dt.int _)⟩
theorem dop_I {C : Int → Int → Prop} {g : Int → Int → Int} {i j : Int} (hc : C i j) : DOp (rI C fun i j => .int (g i j)) (D (.int i)) (D (.int j)) (D (.int (g i j))) := fun G H x y Q g' rx ry q =>
  ⟨i, j, dt_int rx, dt_int ry, hc, Ext.here g' q (Dt.int _)⟩
theorem dop_B0 {g : Int → Int → Bool} {i j : Int} : DOp (rI0 fun i j => .bl (g i j)) (D (.int i)) (D (.int j)) (D (.bool (g i j))) := fun G H x y Q g' rx ry q =>
  ⟨i, j, dt_int rx, dt_int ry, Ext.here g' q (Dt.bl _)⟩
theorem pd_bin {op : Operator} (ha : PED X δ a (D d1) δ1) (hb : PED X δ1 b (D d2) δ2) (k : BinD op d1 d2 r) : PED X δ (.BinOp a op b pos) (D r) δ2 := by
  cases k with
  | addI => exact (pe_op op_add ha hb).imp fun σ H Q h => tD_op dop_I0 h
  | subI => exact (pe_op op_sub ha hb).imp fun σ H Q h => tD_op dop_I0 h
  | mulI hc => exact (pe_op op_mul ha hb).imp fun σ H Q h => tD_op (dop_I hc) h
  | divI hc => exact (pe_op op_fdiv ha hb).imp fun σ H Q h => tD_op (dop_I hc) h
  | @modI i j hc => exact (pe_op op_mod ha hb).imp fun σ H Q h => tD_op (dop_I (C := fun _ j => 0 < j) (i := i) (j := j) hc) h
  | @addS x y hz =>
    refine (pe_op op_add_str ha hb).imp fun σ H Q h => tD_op (fun G H x' y' Q g rx ry q => ?_) h
    exact ⟨x, y, dt_str rx, dt_str ry, hz, Ext.here g q (Dt.str _)⟩
  | @addL xs ys hz =>
    refine (pe_op op_cat ha hb).imp fun σ H Q h => tD_op (fun G H x' y' Q g rx ry q => ?_) h
    obtain ⟨a1, us, rfl, h1, h2⟩ := dt_lst rx
    obtain ⟨a2, vs, rfl, h3, h4⟩ := dt_lst ry
    exact ⟨a1, a2, us, vs, rfl, rfl, g _ _ h1, g _ _ h3, by rw [h2.length, h4.length]; exact hz, Ext.lst g q (h2.append h4)⟩
  | @addT xs ys hz =>
    refine (pe_op op_catA ha hb).imp fun σ H Q h => tD_op (fun G H x' y' Q g rx ry q => ?_) h
    obtain ⟨a1, us, rfl, h1, h2⟩ := dt_tup rx
    obtain ⟨a2, vs, rfl, h3, h4⟩ := dt_tup ry
    refine ⟨a1, a2, us, vs, rfl, rfl, .of (g _ _ h1), .of (g _ _ h3), by rw [h2.length, h4.length]; exact hz, fun e => ?_, fun _ e => ?_, fun _ _ => Ext.tup g q (h2.append h4)⟩
    · subst e; cases h2; exact Ext.here g q (Dt.tup h3 h4)
    · subst e; cases h4; exact Ext.here g q (by rw [List.append_nil]; exact Dt.tup h1 h2)
/-- -n -/
theorem pd_neg {i : Int} (ha : PED X δ a (D (.int i)) δ1) : PED X δ (.UnaryOp .USub a pos) (D (.int (-i))) δ1 :=
  (pe_un un_neg ha).imp fun σ H Q h => tD_un (fun G H x Q g rx q => ⟨i, dt_int rx, Ext.here g q (Dt.int _)⟩) h

/-! ### comparisons -/
inductive CmpD : CmpOp → PyData → PyData → Bool → Prop
  | lt {i j : Int} : CmpD .Lt (.int i) (.int j) (decide (i < j))
  | le {i j : Int} : CmpD .LtE (.int i) (.int j) (decide (i ≤ j))
  | gt {i j : Int} : CmpD .Gt (.int i) (.int j) (decide (j < i))
  | ge {i j : Int} : CmpD .GtE (.int i) (.int j) (decide (j ≤ i))
  | eq {d e : PyData} (h1 : SeqAt.shaped d = true) (h2 : SeqAt.shaped e = true) : CmpD .Eq d e (PyData.eqv d e)
  | ne {d e : PyData} (h1 : SeqAt.shaped d = true) (h2 : SeqAt.shaped e = true) : CmpD .NotEq d e (!PyData.eqv d e)
  | isN {d : PyData} : CmpD .Is d .none (isNon d)
  | notN {d : PyData} : CmpD .IsNot d .none (!isNon d)
  | inL {d : PyData} {ds : List PyData} (h1 : SeqAt.shaped d = true) (h2 : SeqAt.shaped (.list ds) = true) : CmpD .In d (.list ds) (ds.any fun z => PyData.eqv z d)
  | ninL {d : PyData} {ds : List PyData} (h1 : SeqAt.shaped d = true) (h2 : SeqAt.shaped (.list ds) = true) : CmpD .NotIn d (.list ds) (!ds.any fun z => PyData.eqv z d)
  | inT {i : Int} {is : List Int} : CmpD .In (.int i) (.tuple (is.map .int)) (decide (i ∈ is))
  | inS {c : Nat} {z : Str} : CmpD .In (.str ⟨#[c]⟩) (.str z) (decide (c ∈ z.cps.toList))
  | ltD {d e : PyData} (h : PySem.W.alike d e = true) (hn : d ≠ .none) (hd : d.depth ≤ 64) : CmpD .Lt d e (PySem.W.dataLt d e)
theorem op_ltD {X : Cx} (hu : X.A.units + 100 < cLine) : OpR X (compareOp .Lt) (fun x y H Q => ∃ d e, Dp X.K H x d ∧ Dp X.K H y e ∧ PySem.W.alike d e = true ∧ d ≠ .none ∧ d.depth ≤ 64 ∧ Q (.bl (PySem.W.dataLt d e)) H) := by
  intro pins s σ H x y v u Q I rx ry h
  obtain ⟨d, e, hd, he, ha, hn, hz, q⟩ := h
  obtain ⟨as, r1⟩ := Dp.reads I d x v hd rx
  obtain ⟨bs, r2⟩ := Dp.reads I e y u he ry
  exact PySem.W.lt_data r1 r2 ha hn (by omega) ⟨.bl _, H, I, rfl, q⟩
theorem inV_ints (i : Int) : ∀ is : List Int, inV (.int i) (is.map V.int) = decide (i ∈ is)
  | [] => by simp [inV]
  | j :: is => by
    have h := inV_ints i is
    unfold inV at h ⊢
    rw [List.map_cons, List.any_cons, h]
    by_cases e : j = i
    · subst e; simp [eqV]
    · have e' : ¬ i = j := fun q => e q.symm
      simp [eqV, e, e']
theorem ints_dt2 {G : Hp} : ∀ {vs : List V} {bs : List Int}, DtAll G vs (bs.map PyData.int) → vs = bs.map V.int
  | _, [], h => by cases h; rfl
  | _, b :: bs, h => by cases h with | cons h1 h2 => cases h1; rw [ints_dt2 h2]; rfl
/-- such an operator's rule -/
theorem CmpD.op {op : CmpOp} {r : Bool} (hu : X.A.units + 100 < cLine) (k : CmpD op d1 d2 r) : ∃ rr, OpR X (compareOp op) rr ∧ DOp rr (D d1) (D d2) (D (.bool r)) := by
  cases k with
  | lt => exact ⟨_, op_lt, dop_B0⟩
  | le => exact ⟨_, op_le, dop_B0⟩
  | gt => exact ⟨_, op_gt, dop_B0⟩
  | ge => exact ⟨_, op_ge, dop_B0⟩
  | eq h1 h2 => exact ⟨_, op_eqD (by omega), fun G H x y Q g rx ry q => ⟨d1, d2, Dt.dp _ (Dt.up rx g), Dt.dp _ (Dt.up ry g), h1, h2, Ext.here g q (Dt.bl _)⟩⟩
  | ne h1 h2 => exact ⟨_, op_neD (by omega), fun G H x y Q g rx ry q => ⟨d1, d2, Dt.dp _ (Dt.up rx g), Dt.dp _ (Dt.up ry g), h1, h2, Ext.here g q (Dt.bl _)⟩⟩
  | isN => exact ⟨_, op_isN, fun G H x y Q g rx ry q => ⟨dt_non ry, by rw [dt_not_none rx]; exact Ext.here g q (Dt.bl _)⟩⟩
  | notN => exact ⟨_, op_notN, fun G H x y Q g rx ry q => ⟨dt_non ry, by rw [dt_not_none rx]; exact Ext.here g q (Dt.bl _)⟩⟩
  | inL h1 h2 => exact ⟨_, op_inD (by omega), fun G H x y Q g rx ry q => ⟨_, _, Dt.dp _ (Dt.up rx g), Dt.dp _ (Dt.up ry g), h1, h2, Ext.here g q (Dt.bl _)⟩⟩
  | ninL h1 h2 => exact ⟨_, op_notInD (by omega), fun G H x y Q g rx ry q => ⟨_, _, Dt.dp _ (Dt.up rx g), Dt.dp _ (Dt.up ry g), h1, h2, Ext.here g q (Dt.bl _)⟩⟩
  | inT =>
    refine ⟨_, op_in_seq, fun G H x y Q g rx ry q => ?_⟩
    obtain ⟨p, xs, rfl, h1, h2⟩ := dt_tup ry
    have e := ints_dt2 h2
    subst e
    refine ⟨p, _, rfl, .inr (.of (g _ _ h1)), by rw [dt_int rx]; rfl, by simp [flatV], ?_⟩
    rw [dt_int rx, if_neg (by decide), inV_ints]
    exact Ext.here g q (Dt.bl _)
  | inS => exact ⟨_, op_in_sign, fun G H x y Q g rx ry q => ⟨_, _, dt_str rx, dt_str ry, Ext.here g q (Dt.bl _)⟩⟩
  | ltD h hn hd => exact ⟨_, op_ltD hu, fun G H x y Q g rx ry q => ⟨_, _, Dt.dp _ (Dt.up rx g), Dt.dp _ (Dt.up ry g), h, hn, hd, Ext.here g q (Dt.bl _)⟩⟩
theorem pd_cmp {op : CmpOp} {r : Bool} (hu : X.A.units + 100 < cLine) (ha : PED X δ a (D d1) δ1) (hb : PED X δ1 b (D d2) δ2) (k : CmpD op d1 d2 r)
    (hm : behindInMarks op b = false := by first | exact nomark _ (by decide) (by decide) | rfl) : PED X δ (.Compare a [op] [b] pos) (D (.bool r)) δ2 := by
  obtain ⟨rr, ho, hd⟩ := k.op hu
  exact (pe_cmpR ho ha hb hm).imp fun σ H Q h => tD_op hd h
/-- a bool's expression as a test -/
theorem ptd_cmp {op : CmpOp} {r : Bool} (hu : X.A.units + 100 < cLine) (ha : PED X δ a (D d1) δ1) (hb : PED X δ1 b (D d2) δ2) (k : CmpD op d1 d2 r)
    (hm : behindInMarks op b = false := by first | exact nomark _ (by decide) (by decide) | rfl) : PTD X δ (.Compare a [op] [b] pos) r δ2 := by
  obtain ⟨rr, ho, hd⟩ := k.op hu
  refine (pt_cmpR ho ha hb hm).imp fun σ H Q ⟨G0, H0, G, S, q⟩ => ?_
  exact tD_op hd ⟨G0, H0, G, S, fun v G' H' g S' rv => ⟨r, dt_bl rv, q G' H' g S'⟩⟩
theorem ptd_val {r : Bool} (h : PED X δ e (D (.bool r)) δ') (he : ∀ whole, isTrue e X.env whole = (do let v ← whole; standAt e.pos; holding [v] (truthy v)) := by intro _; rfl) : PTD X δ e r δ' :=
  (pt_val h he).imp fun σ H Q ⟨G0, H0, G, S, q⟩ => ⟨G0, H0, G, S, fun v G' H' g S' rv => ⟨r, dt_bl rv, q G' H' g S'⟩⟩
theorem tD_chain {op op' : CmpOp} {d3 : PyData} {r r' : Bool} {rr rr' : R2} (hd : DOp rr (D d1) (D d2) (D (.bool r))) (hd' : DOp rr' (D d2) (D d3) (D (.bool r'))) {σ : L2.St} {H : Hp} {Q : VK} (h : tD X.prog X.w δ (D (.bool (r && r'))) δ2 σ H Q) :
    tChain rr rr' (tD X.prog X.w δ (D d1) δ1) (tD X.prog X.w δ1 (D d2) δ2) (tD X.prog X.w δ2 (D d3) δ2) σ H Q := by
  obtain ⟨G0, H0, G, S, q⟩ := h
  refine ⟨G0, H0, G, S, fun x G1 H1 g1 S1 rx => ⟨G0, H0, G1, S1, fun y G2 H2 g2 S2 ry => ?_⟩⟩
  refine hd G2 H2 x y _ S2.gh (VOk.up rx g2) ry fun z G3 H3 e3 rz => ⟨r, dt_bl rz, ?_⟩
  cases r with
  | true =>
    refine iteT ⟨G0, H0, G3, S2.ext e3, fun u G4 H4 g4 S4 ru => ?_⟩
    refine hd' G4 H4 y u Q S4.gh (VOk.up ry (same_trans e3.gg g4)) ru fun v G5 H5 e5 rv => ?_
    exact q v G5 H5 (same_trans g1 (same_trans g2 (same_trans e3.gg (same_trans g4 e5.gg)))) (S4.ext e5) rv
  | false => exact iteF (q _ G3 H3 (same_trans g1 (same_trans g2 e3.gg)) (S2.ext e3) (Dt.bl _))
theorem pd_chain {op op' : CmpOp} {d3 : PyData} {r r' : Bool} (hu : X.A.units + 100 < cLine) (ha : PED X δ a (D d1) δ1) (hb : PED X δ1 b (D d2) δ2) (hc : PED X δ2 c (D d3) δ2) (k : CmpD op d1 d2 r) (k' : CmpD op' d2 d3 r')
    (hm : lastMarks [op, op'] [b, c] = false := by with_unfolding_all rfl) : PED X δ (.Compare a [op, op'] [b, c] pos) (D (.bool (r && r'))) δ2 := by
  obtain ⟨rr, ho, hd⟩ := k.op hu
  obtain ⟨rr', ho', hd'⟩ := k'.op hu
  exact (pe_chain ho ho' ha hb hc hm).imp fun σ H Q h => tD_chain (op := op) (op' := op') hd hd' h
theorem ptd_chain {op op' : CmpOp} {d3 : PyData} {r r' : Bool} (hu : X.A.units + 100 < cLine) (ha : PED X δ a (D d1) δ1) (hb : PED X δ1 b (D d2) δ2) (hc : PED X δ2 c (D d3) δ2) (k : CmpD op d1 d2 r) (k' : CmpD op' d2 d3 r')
    (hm : lastMarks [op, op'] [b, c] = false := by with_unfolding_all rfl) : PTD X δ (.Compare a [op, op'] [b, c] pos) (r && r') δ2 := by
  obtain ⟨rr, ho, hd⟩ := k.op hu
  obtain ⟨rr', ho', hd'⟩ := k'.op hu
  exact (pt_chain ho ho' ha hb hc hm).imp fun σ H Q ⟨G0, H0, G, S, q⟩ => tD_chain (op := op) (op' := op') hd hd' ⟨G0, H0, G, S, fun v G' H' g S' rv => ⟨_, dt_bl rv, q G' H' g S'⟩⟩

/-! ### and, or, not -/
theorem ptd_not {r : Bool} (h : PTD X δ e r δ') : PTD X δ (.UnaryOp .Not e pos) (!r) δ' := (pt_not h).imp fun σ H Q ⟨G0, H0, G, S, q⟩ => ⟨G0, H0, G, S, q⟩
/-- the parts of an and, an or, as tests: all known -/
abbrev PWD (X : Cx) (δ : List Sl) (e : Expr) (b : Bool) (δ' : List Sl) : Prop := PW X e (tDT X.prog X.w δ b δ')
theorem _root_.L2.PW.imp {t t' : TT} (h : PW X e t) (k : ∀ σ H Q, t' σ H Q → t σ H Q) : PW X e t' := ⟨fun wh pins s σ H Q I q => h.run wh pins s σ H Q I (k σ H Q q)⟩
theorem _root_.L2.PW.never {e : Expr} : PW X e (fun _ _ _ => False) := ⟨fun _ _ _ _ _ _ _ h => h.elim⟩
theorem _root_.L2.PT.never {e : Expr} : PT X e (fun _ _ _ => False) := ⟨fun _ _ _ _ _ _ h => h.elim⟩
theorem _root_.L2.PE.never {e : Expr} : PE X e (fun _ _ _ => False) := ⟨fun _ _ _ _ _ _ h => h.elim⟩
variable {rest : List Expr} {r1 r2 : Bool}
theorem pwd_and1 (h : PTD X δ a r1 δ') : PWD X δ (.BoolOp .And [a] pos) r1 δ' := pw_and1 h
theorem pwd_or1 (h : PTD X δ a r1 δ') : PWD X δ (.BoolOp .Or [a] pos) r1 δ' := pw_or1 h
theorem pwd_andT (h : PTD X δ a true δ1) (h2 : PWD X δ1 (.BoolOp .And (b :: rest) pos) r2 δ2) : PWD X δ (.BoolOp .And (a :: b :: rest) pos) r2 δ2 :=
  (pw_and h h2).imp fun σ H Q ⟨G0, H0, G, S, q⟩ => ⟨G0, H0, G, S, fun G1 H1 g1 S1 => iteT ⟨G0, H0, G1, S1, fun G2 H2 g2 S2 => q G2 H2 (same_trans g1 g2) S2⟩⟩
theorem pwd_andF (h : PTD X δ a false δ1) : PWD X δ (.BoolOp .And (a :: b :: rest) pos) false δ1 :=
  (pw_and h PW.never).imp fun σ H Q ⟨G0, H0, G, S, q⟩ => ⟨G0, H0, G, S, fun G1 H1 g1 S1 => iteF (q G1 H1 g1 S1)⟩
theorem pwd_orF (h : PTD X δ a false δ1) (h2 : PWD X δ1 (.BoolOp .Or (b :: rest) pos) r2 δ2) : PWD X δ (.BoolOp .Or (a :: b :: rest) pos) r2 δ2 :=
  (pw_or h h2).imp fun σ H Q ⟨G0, H0, G, S, q⟩ => ⟨G0, H0, G, S, fun G1 H1 g1 S1 => iteF ⟨G0, H0, G1, S1, fun G2 H2 g2 S2 => q G2 H2 (same_trans g1 g2) S2⟩⟩
theorem pwd_orT (h : PTD X δ a true δ1) : PWD X δ (.BoolOp .Or (a :: b :: rest) pos) true δ1 :=
  (pw_or h PW.never).imp fun σ H Q ⟨G0, H0, G, S, q⟩ => ⟨G0, H0, G, S, fun G1 H1 g1 S1 => iteT (q G1 H1 g1 S1)⟩
/-- where every part leaves the state as it is -/
theorem pwd_and (h : PTD X δ a r1 δ) (h2 : r1 = true → PWD X δ (.BoolOp .And (b :: rest) pos) r2 δ) : PWD X δ (.BoolOp .And (a :: b :: rest) pos) (r1 && r2) δ := by
  cases r1 with
  | true => exact pwd_andT h (h2 rfl)
  | false => exact pwd_andF h
theorem pwd_or (h : PTD X δ a r1 δ) (h2 : r1 = false → PWD X δ (.BoolOp .Or (b :: rest) pos) r2 δ) : PWD X δ (.BoolOp .Or (a :: b :: rest) pos) (r1 || r2) δ := by
  cases r1 with
  | false => exact pwd_orF h (h2 rfl)
  | true => exact pwd_orT h
/-- .. as values -/
theorem pd_one {op} {d : Sl} (h : PED X δ a d δ') : PED X δ (.BoolOp op [a] pos) d δ' := pe_one h
theorem pd_and (h : PED X δ a (D (.bool r1)) δ) (h2 : r1 = true → PED X δ (.BoolOp .And (b :: rest) pos) (D (.bool r2)) δ) : PED X δ (.BoolOp .And (a :: b :: rest) pos) (D (.bool (r1 && r2))) δ := by
  cases r1 with
  | true => exact (pe_and h (h2 rfl)).imp fun σ H Q ⟨G0, H0, G, S, q⟩ => ⟨G0, H0, G, S, fun v G1 H1 g1 S1 rv => ⟨true, dt_bl rv, iteT ⟨G0, H0, G1, S1, fun v G2 H2 g2 S2 rv => q v G2 H2 (same_trans g1 g2) S2 rv⟩⟩⟩
  | false => exact (pe_and h PE.never).imp fun σ H Q ⟨G0, H0, G, S, q⟩ => ⟨G0, H0, G, S, fun v G1 H1 g1 S1 rv => ⟨false, dt_bl rv, iteF (q _ G1 H1 g1 S1 (Dt.bl _))⟩⟩
theorem pd_or (h : PED X δ a (D (.bool r1)) δ) (h2 : r1 = false → PED X δ (.BoolOp .Or (b :: rest) pos) (D (.bool r2)) δ) : PED X δ (.BoolOp .Or (a :: b :: rest) pos) (D (.bool (r1 || r2))) δ := by
  cases r1 with
  | false => exact (pe_or h (h2 rfl)).imp fun σ H Q ⟨G0, H0, G, S, q⟩ => ⟨G0, H0, G, S, fun v G1 H1 g1 S1 rv => ⟨false, dt_bl rv, iteF ⟨G0, H0, G1, S1, fun v G2 H2 g2 S2 rv => q v G2 H2 (same_trans g1 g2) S2 rv⟩⟩⟩
  | true => exact (pe_or h PE.never).imp fun σ H Q ⟨G0, H0, G, S, q⟩ => ⟨G0, H0, G, S, fun v G1 H1 g1 S1 rv => ⟨true, dt_bl rv, iteT (q _ G1 H1 g1 S1 (Dt.bl _))⟩⟩
theorem pd_not (h : PED X δ a (D (.bool r1)) δ') : PED X δ (.UnaryOp .Not a pos) (D (.bool (!r1))) δ' :=
  (pe_not h).imp fun σ H Q ⟨G0, H0, G, S, q⟩ => ⟨G0, H0, G, S, fun v G1 H1 g1 S1 rv => ⟨r1, dt_bl rv, q _ G1 H1 g1 S1 (Dt.bl _)⟩⟩

/-! ### argument lists, displays -/
variable {es : List Expr} {ds : List Sl} {ps : List PyData} {s : Sl}
theorem pad_nil : PAD X δ [] [] δ := pa_nil.imp fun σ H Q ⟨G0, H0, G, S, q⟩ => q [] G H (same_refl _) S .nil
theorem pad_cons (h : PED X δ a s δ1) (hr : PAD X δ1 es ds δ2) (hs : starEach (a :: es) X.env = (false, eval a X.env) :: starEach es X.env := by rfl) : PAD X δ (a :: es) (s :: ds) δ2 :=
  (pa_cons h hr hs).imp fun σ H Q ⟨G0, H0, G, S, q⟩ => ⟨G0, H0, G, S, fun v G1 H1 g1 S1 rv => ⟨G0, H0, G1, S1, fun vs G2 H2 g2 S2 rvs => q (v :: vs) G2 H2 (same_trans g1 g2) S2 (.cons (VOk.up rv g2) rvs)⟩⟩
theorem vsok_all {G : Hp} : ∀ {vs : List V} {ps : List PyData}, VsOk G vs (ps.map D) → DtAll G vs ps
  | _, [], h => by cases h; exact .nil
  | _, p :: ps, h => by cases h with | cons h1 h2 => exact .cons h1 (vsok_all h2)
theorem pd_tup {k1} (h : PAD X δ es (ps.map D) δ1) (hz : ps.length ≤ sizeLine := by exact Nat.le_of_ble_eq_true rfl) : PED X δ (.Tuple es k1 pos) (D (.tuple ps)) δ1 :=
  (pe_tup h).imp fun σ H Q ⟨G0, H0, G, S, q⟩ => ⟨G0, H0, G, S, fun vs G1 H1 g1 S1 rvs => by
    have ha := vsok_all rvs
    exact ⟨by rw [ha.length]; exact hz, Ext.tup S1.gh (fun v G' H' x rv => q v G' H' (same_trans g1 x.gg) (S1.ext x) rv) ha⟩⟩
theorem pd_lst (h : PAD X δ es (ps.map D) δ1) (hz : ps.length ≤ sizeLine := by exact Nat.le_of_ble_eq_true rfl) : PED X δ (.List es pos) (D (.list ps)) δ1 :=
  (pe_lst h).imp fun σ H Q ⟨G0, H0, G, S, q⟩ => ⟨G0, H0, G, S, fun vs G1 H1 g1 S1 rvs => by
    have ha := vsok_all rvs
    exact ⟨by rw [ha.length]; exact hz, Ext.lst S1.gh (fun v G' H' x rv => q v G' H' (same_trans g1 x.gg) (S1.ext x) rv) ha⟩⟩
end
end Ct

-- DL3
set_option Elab.async false
set_option linter.all false
set_option maxRecDepth 100000
set_option maxHeartbeats 1000000
/-! DL3: subscripts, slices, built-ins, calls of defs, statements, loops, a def's promise. -/
namespace Ct
open PySem PySem.Spec L2

/-! ### own objects -/
section
variable {P : Program} {w : World} {G G' G1 H H' H1 G0 H0 : Hp} {δ : List Sl} {σ : L2.St}
/-- a slot takes a new object of its own -/
theorem StOk.storeNew {i : Nat} {p : Addr} {o : HO} {s : Sl} (S : StOk P w G0 H0 δ σ G H) (hp : H p = none) (ok : SlOk P w G (upd H p o) s (some (.ref p))) (ho : ownAt s (some (.ref p)) = some p) :
    StOk P w G0 H0 (δ.set i s) (σ.set i (some (.ref p))) G (upd H p o) := by
  have n0 : H0 p = none := same_none S.hh hp
  have n1 : G p = none := same_none S.gh hp
  have up : ∀ j t, δ[j]? = some t → SlOk P w G (upd H p o) t (σ[j]?.join) := fun j t e => (S.sl j t e).up (same_refl _) fun q u _ hq => same_new hp _ _ hq
  have neq : ∀ j t q, δ[j]? = some t → ownAt t (σ[j]?.join) = some q → q ≠ p := fun j t q e z => by
    obtain ⟨u, hu⟩ := (S.sl j t e).there z
    exact ne_of_none hu hp
  have pos : ∀ t, (δ.set i s)[i]? = some t → t = s ∧ (σ.set i (some (.ref p)))[i]?.join = some (.ref p) := fun t e => by
    have hlt : i < δ.length := by
      have := (List.getElem?_eq_some_iff.mp e).1
      rw [List.length_set] at this; exact this
    rw [List.getElem?_set_self hlt] at e; cases e
    exact ⟨rfl, join_set_self (Nat.lt_of_lt_of_le hlt S.len)⟩
  refine ⟨S.gg, same_trans S.hh (same_new hp), same_trans S.gh (same_new hp), S.sep, by rw [List.length_set, List.length_set]; exact S.len, fun j t e => ?_, fun j t q e z => ?_, fun j l t u q hjl e1 e2 z => ?_⟩
  · by_cases hj : i = j
    · subst hj
      obtain ⟨rfl, e2⟩ := pos t e
      rw [e2]; exact ok
    · rw [List.getElem?_set_ne hj] at e
      rw [join_set_ne hj]; exact up j t e
  · by_cases hj : i = j
    · subst hj
      obtain ⟨rfl, e2⟩ := pos t e
      rw [e2, ho] at z; cases z
      exact ⟨n0, n1⟩
    · rw [List.getElem?_set_ne hj] at e
      rw [join_set_ne hj] at z; exact S.own j t q e z
  · by_cases hj : i = j
    · subst hj
      obtain ⟨rfl, e3⟩ := pos t e1
      rw [e3, ho] at z; cases z
      rw [List.getElem?_set_ne hjl] at e2
      rw [join_set_ne hjl]
      exact fun q => neq l u p e2 q rfl
    · rw [List.getElem?_set_ne hj] at e1
      rw [join_set_ne hj] at z
      by_cases hl : i = l
      · subst hl
        obtain ⟨rfl, e3⟩ := pos u e2
        rw [e3, ho]
        exact fun q' => neq j t q e1 z (Option.some.inj q').symm
      · rw [List.getElem?_set_ne hl] at e2
        rw [join_set_ne hl]; exact S.dis j l t u q hjl e1 e2 z
/-- a slot's own object is changed -/
theorem StOk.mut {i : Nat} {p : Addr} {o : HO} {s t : Sl} (S : StOk P w G0 H0 δ σ G H) (hi : δ[i]? = some t) (hp : ownAt t (σ[i]?.join) = some p) (ok : SlOk P w G (upd H p o) s (some (.ref p))) (ho : ownAt s (some (.ref p)) = some p) :
    StOk P w G0 H0 (δ.set i s) σ G (upd H p o) := by
  obtain ⟨n0, n1⟩ := S.own i t p hi hp
  have hv := ownAt_some hp
  have hlt : i < δ.length := (List.getElem?_eq_some_iff.mp hi).1
  refine ⟨S.gg, fun b u e => by rw [upd_ne (ne_of_none e n0)]; exact S.hh b u e, fun b u e => by rw [upd_ne (ne_of_none e n1)]; exact S.gh b u e, S.sep, by rw [List.length_set]; exact S.len, fun j u e => ?_, fun j u q e z => ?_, fun j l u u' q hjl e1 e2 z => ?_⟩
  · by_cases hj : i = j
    · subst hj
      rw [List.getElem?_set_self hlt] at e; cases e
      rw [hv]; exact ok
    · rw [List.getElem?_set_ne hj] at e
      refine (S.sl j u e).up (same_refl _) fun q v hq hu => ?_
      rw [upd_ne fun z => S.dis i j t u p hj hi e hp (by rw [hq, z])]; exact hu
  · by_cases hj : i = j
    · subst hj
      rw [List.getElem?_set_self hlt] at e; cases e
      rw [hv, ho] at z; cases z
      exact ⟨n0, n1⟩
    · rw [List.getElem?_set_ne hj] at e
      exact S.own j u q e z
  · by_cases hj : i = j
    · subst hj
      rw [List.getElem?_set_self hlt] at e1; cases e1
      rw [hv, ho] at z; cases z
      rw [List.getElem?_set_ne hjl] at e2
      exact S.dis i l t u' p hjl hi e2 hp
    · rw [List.getElem?_set_ne hj] at e1
      by_cases hl : i = l
      · subst hl
        rw [List.getElem?_set_self hlt] at e2; cases e2
        rw [hv, ho]
        intro q'
        cases q'
        exact S.dis i j t u p hj hi e1 hp z
      · rw [List.getElem?_set_ne hl] at e2
        exact S.dis j l u u' q hjl e1 e2 z
/-- a slot's own list becomes data -/
theorem StOk.freeze {i : Nat} {ds : List PyData} (S : StOk P w G0 H0 δ σ G H) (hi : δ[i]? = some (.lst ds)) : ∃ G', Same G G' ∧ StOk P w G0 H0 (δ.set i (D (.list ds))) σ G' H := by
  have h := S.sl i _ hi
  cases e : σ[i]?.join with
  | none => rw [e] at h; exact False.elim h
  | some v =>
    rw [e] at h
    obtain ⟨p, xs, rfl, hp, ha⟩ := h
    have hown : ownAt (.lst ds) (σ[i]?.join) = some p := by rw [e]; rfl
    obtain ⟨n0, n1⟩ := S.own i _ p hi hown
    have hlt : i < δ.length := (List.getElem?_eq_some_iff.mp hi).1
    have g1 : Same G (upd G p (.lst xs)) := same_new n1
    refine ⟨upd G p (.lst xs), g1, same_trans S.gg g1, S.hh, fun b u q => ?_, fun b u q n => ?_, by rw [List.length_set]; exact S.len, fun j u q => ?_, fun j u q z z' => ?_, fun j l u u' q hjl e1 e2 z => ?_⟩
    · by_cases hb : b = p
      · subst hb; rw [upd_same] at q; cases q; exact hp
      · rw [upd_ne hb] at q; exact S.gh b u q
    · rw [upd_ne (ne_of_none q n0)]; exact S.sep b u q n
    · by_cases hj : i = j
      · subst hj
        rw [List.getElem?_set_self hlt] at q; cases q
        rw [e]; exact Dt.lst upd_same (DtAll.up ha g1)
      · rw [List.getElem?_set_ne hj] at q
        exact (S.sl j u q).up g1 fun _ _ _ z => z
    · by_cases hj : i = j
      · subst hj
        rw [List.getElem?_set_self hlt] at z; cases z
        cases z'
      · rw [List.getElem?_set_ne hj] at z
        obtain ⟨m0, m1⟩ := S.own j u q z z'
        refine ⟨m0, ?_⟩
        rw [upd_ne fun z2 => S.dis i j _ u p hj hi z hown (by rw [z', z2])]; exact m1
    · by_cases hj : i = j
      · subst hj
        rw [List.getElem?_set_self hlt] at e1; cases e1
        cases z
      · rw [List.getElem?_set_ne hj] at e1
        by_cases hl : i = l
        · subst hl
          rw [List.getElem?_set_self hlt] at e2; cases e2
          exact fun q' => by cases q'
        · rw [List.getElem?_set_ne hl] at e2
          exact S.dis j l u u' q hjl e1 e2 z
/-- what a slot's own list is -/
theorem StOk.lstAt {i : Nat} {ds : List PyData} (S : StOk P w G0 H0 δ σ G H) (hi : δ[i]? = some (.lst ds)) : ∃ p xs, σ[i]? = some (some (.ref p)) ∧ H p = some (.lst xs) ∧ DtAll G xs ds ∧ ownAt (.lst ds) (σ[i]?.join) = some p := by
  have h := S.sl i _ hi
  cases e : σ[i]? with
  | none => rw [e] at h; exact False.elim h
  | some o =>
    rw [e] at h
    cases o with
    | none => exact False.elim h
    | some v =>
      obtain ⟨p, xs, rfl, hp, ha⟩ := h
      exact ⟨p, xs, rfl, hp, ha, rfl⟩
theorem StOk.dctAt {i : Nat} {kvs : List (PyData × PyData)} (S : StOk P w G0 H0 δ σ G H) (hi : δ[i]? = some (.dct kvs)) : ∃ p zs, σ[i]? = some (some (.ref p)) ∧ H p = some (dHO P w p zs) ∧ Paired (DkOk G) zs kvs ∧ ownAt (.dct kvs) (σ[i]?.join) = some p := by
  have h := S.sl i _ hi
  cases e : σ[i]? with
  | none => rw [e] at h; exact False.elim h
  | some o =>
    rw [e] at h
    cases o with
    | none => exact False.elim h
    | some v =>
      obtain ⟨p, xs, rfl, hp, ha⟩ := h
      exact ⟨p, xs, rfl, hp, ha, rfl⟩
theorem StOk.dkiAt {i : Nat} {kvs : List (Int × PyData)} (S : StOk P w G0 H0 δ σ G H) (hi : δ[i]? = some (.dki kvs)) : ∃ p zs, σ[i]? = some (some (.ref p)) ∧ H p = some (.dK zs) ∧ Paired (DiOk G) zs kvs ∧ ownAt (.dki kvs) (σ[i]?.join) = some p := by
  have h := S.sl i _ hi
  cases e : σ[i]? with
  | none => rw [e] at h; exact False.elim h
  | some o =>
    rw [e] at h
    cases o with
    | none => exact False.elim h
    | some v =>
      obtain ⟨p, xs, rfl, hp, ha⟩ := h
      exact ⟨p, xs, rfl, hp, ha, rfl⟩
end

/-! ### subscripts -/
theorem atI_dt {G : Hp} {xs : List V} {ds : List PyData} {i : Int} {d : PyData} (h : DtAll G xs ds) (e : atI ds i = some d) : ∃ v, atI xs i = some v ∧ Dt G v d := by
  unfold atI at e ⊢
  rw [h.length]
  cases q : ixN ds.length i with
  | none => rw [q] at e; cases e
  | some j =>
    rw [q] at e
    exact h.get e
inductive IxD : PyData → Int → PyData → Prop
  | lst {ds : List PyData} {i : Int} {d : PyData} (h : atI ds i = some d) : IxD (.list ds) i d
  | tup {ds : List PyData} {i : Int} {d : PyData} (h : atI ds i = some d) : IxD (.tuple ds) i d
  | str {z : Str} {i : Int} {c : Nat} (hz : z.length ≤ sizeLine) (h : atI z.cps.toList i = some c) : IxD (.str z) i (.str ⟨#[c]⟩)
section
variable {X : Cx} {e a b c : Expr} {δ δ1 δ2 δ3 δ' : List Sl} {pos : Pos} {d1 d2 r : PyData}
theorem pd_ix {i : Int} (ha : PED X δ a (D d1) δ1) (hb : PED X δ1 b (D (.int i)) δ2) (k : IxD d1 i r) (hs : PlainIx b := by intro _ _; rfl) : PED X δ (.Subscript a b pos) (D r) δ2 := by
  cases k with
  | @lst ds _ _ h =>
    refine (pe_ix ix_list ha hb hs).imp fun σ H Q h' => tD_op (fun G H x y Q g rx ry q => ?_) h'
    obtain ⟨p, xs, rfl, h1, h2⟩ := dt_lst rx
    obtain ⟨v, e1, e2⟩ := atI_dt h2 h
    exact ⟨p, xs, i, v, rfl, dt_int ry, .of (g _ _ h1), e1, Ext.here g q e2⟩
  | @tup ds _ _ h =>
    refine (pe_ix ix_tup ha hb hs).imp fun σ H Q h' => tD_op (fun G H x y Q g rx ry q => ?_) h'
    obtain ⟨p, xs, rfl, h1, h2⟩ := dt_tup rx
    obtain ⟨v, e1, e2⟩ := atI_dt h2 h
    exact ⟨p, xs, i, v, rfl, dt_int ry, .of (g _ _ h1), e1, Ext.here g q e2⟩
  | @str z _ c hz h =>
    refine (pe_ix ix_str ha hb hs).imp fun σ H Q h' => tD_op (fun G H x y Q g rx ry q => ?_) h'
    exact ⟨z, i, c, dt_str rx, dt_int ry, hz, h, Ext.here g q (Dt.str _)⟩
/-- x[i], x a slot's own list -/
theorem pd_ixO (s : Nat) {x : Str} {ds : List PyData} {i : Int} {p1 : Pos} (hd : δ[s]? = some (.lst ds)) (hb : PED X δ b (D (.int i)) δ) (h : atI ds i = some r) (hN : X.N[s]? = some x := by rfl)
    (hv : Vis X.env.scope x := by first | exact Or.inl rfl | exact Or.inr (Or.inl rfl) | exact Or.inr (Or.inr rfl)) (hs : PlainIx b := by intro _ _; rfl)
    (hdb : (x == ("__debug__" : Str)) = false := by decide) (hcd : (x == ("__classdict__" : Str)) = false := by decide) : PED X δ (.Subscript (.Name x p1) b pos) (D r) δ := by
  refine (pe_ix ix_list (pv s hN hv hdb hcd) hb hs).imp fun σ H Q ⟨G0, H0, G, S, q⟩ => ?_
  obtain ⟨p, xs, e1, hp, ha, _⟩ := S.lstAt hd
  refine ⟨.ref p, e1, G0, H0, G, S, fun v G' H' g' S' rv => ?_⟩
  obtain ⟨p', xs', e1', hp', ha', _⟩ := S'.lstAt hd
  rw [e1] at e1'; cases e1'
  obtain ⟨v', e2, e3⟩ := atI_dt ha' h
  exact ⟨p, xs', i, v', rfl, dt_int rv, .of hp', e2, q v' G' H' g' S' e3⟩

/-! ### slices -/
def cutD (ds : List PyData) (lo hi : Option Int) : List PyData := (ds.drop (HT.sIx ds.length 0 lo)).take (HT.sIx ds.length ds.length hi - HT.sIx ds.length 0 lo)
theorem cut_dt {G : Hp} {xs : List V} {ds : List PyData} (h : DtAll G xs ds) (lo hi : Option Int) : DtAll G (cutV xs lo hi) (cutD ds lo hi) := by
  unfold cutV cutD
  rw [h.length]
  exact (h.drop _).take _
inductive SliD : PyData → Option Int → Option Int → PyData → Prop
  | lst {ds : List PyData} {lo hi : Option Int} : SliD (.list ds) lo hi (.list (cutD ds lo hi))
  | tup {ds : List PyData} {lo hi : Option Int} : SliD (.tuple ds) lo hi (.tuple (cutD ds lo hi))
  | str {z : Str} {lo hi : Option Int} (hz : z.length ≤ sizeLine) : SliD (.str z) lo hi (.str (cutS z lo hi))
def tDO (P : Program) (w : World) (δ : List Sl) (o : Option Int) (δ' : List Sl) : TO := fun σ H Q => ∃ G0 H0 G, StOk P w G0 H0 δ σ G H ∧ ∀ G' H', Same G G' → StOk P w G0 H0 δ' σ G' H' → Q o H'
abbrev POD (X : Cx) (δ : List Sl) (e : Option Expr) (o : Option Int) (δ' : List Sl) : Prop := PO X e (tDO X.prog X.w δ o δ')
theorem _root_.L2.PO.imp {e : Option Expr} {t t' : TO} (h : PO X e t) (k : ∀ σ H Q, t' σ H Q → t σ H Q) : PO X e t' := ⟨fun pins s σ H I R q => h.run pins s σ H I R (k σ H _ q)⟩
theorem pod_none : POD X δ none none δ := po_none.imp fun σ H Q ⟨G0, H0, G, S, q⟩ => q G H (same_refl _) S
theorem pod_some {i : Int} (h : PED X δ e (D (.int i)) δ') : POD X δ (some e) (some i) δ' := (po_some h).imp fun σ H Q ⟨G0, H0, G, S, q⟩ => ⟨G0, H0, G, S, fun v G' H' g S' rv => ⟨i, dt_int rv, q G' H' g S'⟩⟩
theorem pd_slice {lo hi : Option Expr} {ol oh : Option Int} {p2 : Pos} (ha : PED X δ a (D d1) δ1) (hl : POD X δ1 lo ol δ2) (hh : POD X δ2 hi oh δ3) (k : SliD d1 ol oh r) : PED X δ (.Subscript a (.Slice lo hi none p2) pos) (D r) δ3 := by
  have core : ∀ {rr : V → Option Int → Option Int → Hp → VK → Prop}, (∀ G H x (Q : VK), Same G H → VOk G x (D d1) → (∀ v G' H', Ext G H G' H' → VOk G' v (D r) → Q v H') → rr x ol oh H Q) →
      ∀ σ H Q, tD X.prog X.w δ (D r) δ3 σ H Q → tSl rr (tD X.prog X.w δ (D d1) δ1) (tDO X.prog X.w δ1 ol δ2) (tDO X.prog X.w δ2 oh δ3) σ H Q := fun f σ H Q ⟨G0, H0, G, S, q⟩ =>
    ⟨G0, H0, G, S, fun x G1 H1 g1 S1 rx => ⟨G0, H0, G1, S1, fun G2 H2 g2 S2 => ⟨G0, H0, G2, S2, fun G3 H3 g3 S3 => f G3 H3 x Q S3.gh (VOk.up rx (same_trans g2 g3)) fun v G4 H4 e4 rv =>
      q v G4 H4 (same_trans g1 (same_trans g2 (same_trans g3 e4.gg))) (S3.ext e4) rv⟩⟩⟩
  cases k with
  | lst =>
    refine (pe_slice sl_list ha hl hh).imp (core fun G H x Q g rx q => ?_)
    obtain ⟨p, xs, rfl, h1, h2⟩ := dt_lst rx
    exact ⟨p, xs, rfl, .of (g _ _ h1), Ext.lst g q (cut_dt h2 _ _)⟩
  | tup =>
    refine (pe_slice sl_tupA ha hl hh).imp (core fun G H x Q g rx q => ?_)
    obtain ⟨p, xs, rfl, h1, h2⟩ := dt_tup rx
    refine ⟨p, xs, rfl, .of (g _ _ h1), fun e => Ext.here g q (Dt.tup h1 ?_), fun _ => Ext.tup g q (cut_dt h2 _ _)⟩
    have h3 := cut_dt h2 ol oh
    have e2 : cutV xs ol oh = xs := by
      unfold cutV
      rw [e.1, e.2]
      simp
    rw [e2] at h3
    exact h3
  | @str z _ _ hz => exact (pe_slice sl_str ha hl hh).imp (core fun G H x Q g rx q => ⟨z, dt_str rx, hz, Ext.here g q (Dt.str _)⟩)

/-! ### built-in functions -/
variable {es : List Expr} {ds : List Sl} {p : Pos}
inductive LenD : PyData → Nat → Prop
  | lst {ds : List PyData} : LenD (.list ds) ds.length
  | tup {ds : List PyData} : LenD (.tuple ds) ds.length
  | str {z : Str} (hz : z.length ≤ sizeLine) : LenD (.str z) z.length
theorem vsok1 {G : Hp} {xs : List V} {s : Sl} (h : VsOk G xs [s]) : ∃ v, xs = [v] ∧ VOk G v s := by
  cases h with
  | cons h1 h2 => cases h2; exact ⟨_, rfl, h1⟩
theorem vsok2 {G : Hp} {xs : List V} {s t : Sl} (h : VsOk G xs [s, t]) : ∃ v u, xs = [v, u] ∧ VOk G v s ∧ VOk G u t := by
  cases h with
  | cons h1 h2 =>
    cases h2 with
    | cons h2 h3 => cases h3; exact ⟨_, _, rfl, h1, h2⟩
theorem pd_len {n : Nat} (hm : X.mg "len" = none) (ha : PED X δ a (D d1) δ1) (k : LenD d1 n) (hg : Gl X "len" := by rfl) (he : starEach [a] X.env = (false, eval a X.env) :: starEach [] X.env := by rfl) : PED X δ (.Call (.Name "len" p) [a] [] pos) (D (.int n)) δ1 := by
  refine (pe_callB call_len hg hm PySem.boot_len (pad_cons ha pad_nil he) (he := he)).imp fun σ H Q h => tD_call (fun G H xs Q g rx q => ?_) h
  obtain ⟨v, rfl, rv⟩ := vsok1 rx
  cases k with
  | lst => obtain ⟨p, xs, rfl, h1, h2⟩ := dt_lst rv; exact ⟨_, _, rfl, .inl ⟨xs, .of (g _ _ h1), h2.length.symm⟩, Ext.here g q (Dt.int _)⟩
  | tup => obtain ⟨p, xs, rfl, h1, h2⟩ := dt_tup rv; exact ⟨_, _, rfl, .inr ⟨xs, .of (g _ _ h1), h2.length.symm⟩, Ext.here g q (Dt.int _)⟩
  | str hz => cases dt_str rv; exact ⟨_, _, rfl, ⟨hz, rfl⟩, Ext.here g q (Dt.int _)⟩
theorem pd_lenO (s : Nat) {x : Str} {ds : List PyData} {p1 : Pos} (hm : X.mg "len" = none) (hd : δ[s]? = some (.lst ds)) (hN : X.N[s]? = some x := by rfl) (hv : Vis X.env.scope x := by first | exact Or.inl rfl | exact Or.inr (Or.inl rfl) | exact Or.inr (Or.inr rfl))
    (hg : Gl X "len" := by rfl) (hdb : (x == ("__debug__" : Str)) = false := by decide) (hcd : (x == ("__classdict__" : Str)) = false := by decide) : PED X δ (.Call (.Name "len" p) [.Name x p1] [] pos) (D (.int ds.length)) δ := by
  refine (pe_callB call_len_seq hg hm PySem.boot_len (pa_cons (pv s hN hv hdb hcd) pa_nil)).imp fun σ H Q ⟨G0, H0, G, S, q⟩ => ?_
  obtain ⟨p, xs, e1, hp, ha, _⟩ := S.lstAt hd
  exact ⟨.ref p, e1, p, xs, rfl, .inl (.of hp), by rw [ha.length]; exact q _ G H (same_refl _) S (Dt.int _)⟩
/-- the type's name -/
def tyD : PyData → String
  | .none => "NoneType"
  | .bool _ => "bool"
  | .int _ => "int"
  | .str _ => "str"
  | .list _ => "list"
  | .tuple _ => "tuple"
  | .dict _ => "dict"
theorem ty_of {G : Hp} {K : PySem.W.Frag} {v : V} {d : PyData} (h : Dt G v d) : TyX K G v (.type (tyD d)) := by
  cases h with
  | non => exact .base .non
  | bl b => exact .base (.bl b)
  | int i => exact .base (.int i)
  | str x => exact .base (.str x)
  | lst h1 h2 => exact .base (.lst h1)
  | tup h1 h2 => exact .base (.tup h1)
theorem pd_isi {T : Str} {n : String} {r : Bool} {p2 : Pos} (hm : X.mg "isinstance" = none) (ha : PED X δ a (D d1) δ1) (hmT : X.mg T = none) (hvT : bootBuiltins T = some (.type n)) (k : kitB (tyD d1) n = some r)
    (hg : Gl X "isinstance" := by rfl) (hgT : Gl X T := by rfl) (he : starEach [a, .Name T p2] X.env = (false, eval a X.env) :: starEach [.Name T p2] X.env := by rfl)
    (hnT : T ≠ "__name__" := by decide) (hdT : (T == ("__debug__" : Str)) = false := by decide) : PED X δ (.Call (.Name "isinstance" p) [a, .Name T p2] [] pos) (D (.bool r)) δ1 := by
  refine (pe_callB call_isi hg hm (by decide +kernel) (pa_cons ha (pa_cons (pe_bltn (v := .ty n) hgT hmT hvT rfl hnT hdT) pa_nil) he) (he := he)).imp fun σ H Q ⟨G0, H0, G, S, q⟩ => ?_
  exact ⟨G0, H0, G, S, fun v G1 H1 g1 S1 rv => ⟨v, .ty n, _, _, r, rfl, .ty n, ty_of (Dt.up rv S1.gh), kit_ty k, q _ G1 H1 g1 S1 (Dt.bl _)⟩⟩
theorem bools_dt {G : Hp} : ∀ {vs : List V} {bs : List Bool}, DtAll G vs (bs.map PyData.bool) → vs = bs.map V.bl
  | _, [], h => by cases h; rfl
  | _, b :: bs, h => by cases h with | cons h1 h2 => cases h1; rw [bools_dt h2]; rfl
theorem strs_dt {G : Hp} : ∀ {vs : List V} {bs : List Str}, DtAll G vs (bs.map PyData.str) → vs = bs.map V.str
  | _, [], h => by cases h; rfl
  | _, b :: bs, h => by cases h with | cons h1 h2 => cases h1; rw [strs_dt h2]; rfl
theorem ints_dt {G : Hp} : ∀ {vs : List V} {bs : List Int}, DtAll G vs (bs.map PyData.int) → vs = bs.map V.int
  | _, [], h => by cases h; rfl
  | _, b :: bs, h => by cases h with | cons h1 h2 => cases h1; rw [ints_dt h2]; rfl
theorem dt_strs {G : Hp} : ∀ bs : List Str, DtAll G (bs.map V.str) (bs.map PyData.str)
  | [] => .nil
  | b :: bs => .cons (.str b) (dt_strs bs)
theorem dt_ints {G : Hp} : ∀ bs : List Int, DtAll G (bs.map V.int) (bs.map PyData.int)
  | [] => .nil
  | b :: bs => .cons (.int b) (dt_ints bs)
theorem pd_all {bs : List Bool} (hc : X.calm = true) (hm : X.mg "all" = none) (ha : PED X δ a (D (.list (bs.map .bool))) δ1) (hg : Gl X "all" := by rfl) (he : starEach [a] X.env = (false, eval a X.env) :: starEach [] X.env := by rfl) : PED X δ (.Call (.Name "all" p) [a] [] pos) (D (.bool (bs.all id))) δ1 := by
  refine (pe_callB (cr_all hc) hg hm (by decide +kernel) (pad_cons ha pad_nil he) (he := he)).imp fun σ H Q h => tD_call (fun G H xs Q g rx q => ?_) h
  obtain ⟨v, rfl, rv⟩ := vsok1 rx
  obtain ⟨p, xs, rfl, h1, h2⟩ := dt_lst rv
  have e := bools_dt h2
  subst e
  exact ⟨p, bs, rfl, .of (g _ _ h1), Ext.here g q (Dt.bl _)⟩
/-- int(a bool) -/
theorem pd_intB {k : Bool} (hm : X.mg "int" = none) (ha : PED X δ a (D (.bool k)) δ1) (hg : Gl X "int" := by rfl) (he : starEach [a] X.env = (false, eval a X.env) :: starEach [] X.env := by rfl) : PED X δ (.Call (.Name "int" p) [a] [] pos) (D (.int (if k then 1 else 0))) δ1 := by
  refine (pe_callTy call_int1 hg hm (by decide +kernel) (pad_cons ha pad_nil he) (he := he)).imp fun σ H Q h => tD_call (fun G H xs Q g rx q => ?_) h
  obtain ⟨v, rfl, rv⟩ := vsok1 rx
  cases dt_bl rv
  exact .inr ⟨k, rfl, Ext.here g q (Dt.int _)⟩
/-- int(a text) -/
theorem pd_intS {z : Str} {n : Int} (hm : X.mg "int" = none) (ha : PED X δ a (D (.str z)) δ1) (hn : PySem.intText? z = some n) (hz : z.length ≤ 640) (hg : Gl X "int" := by rfl) (he : starEach [a] X.env = (false, eval a X.env) :: starEach [] X.env := by rfl) : PED X δ (.Call (.Name "int" p) [a] [] pos) (D (.int n)) δ1 := by
  refine (pe_callTy call_int_str hg hm (by decide +kernel) (pad_cons ha pad_nil he) (he := he)).imp fun σ H Q h => tD_call (fun G H xs Q g rx q => ?_) h
  obtain ⟨v, rfl, rv⟩ := vsok1 rx
  cases dt_str rv
  exact ⟨z, n, rfl, hn, hz, Ext.here g q (Dt.int _)⟩
/-- str(an int) -/
theorem pd_strI {i : Int} (hm : X.mg "str" = none) (ha : PED X δ a (D (.int i)) δ1) (hz : i.natAbs.log2 < 1920) (hg : Gl X "str" := by rfl) (he : starEach [a] X.env = (false, eval a X.env) :: starEach [] X.env := by rfl) : PED X δ (.Call (.Name "str" p) [a] [] pos) (D (.str (toString i))) δ1 := by
  refine (pe_callTy call_str_int hg hm (by decide +kernel) (pad_cons ha pad_nil he) (he := he)).imp fun σ H Q h => tD_call (fun G H xs Q g rx q => ?_) h
  obtain ⟨v, rfl, rv⟩ := vsok1 rx
  cases dt_int rv
  exact ⟨i, rfl, hz, Ext.here g q (Dt.str _)⟩
/-- list(data) -/
inductive SeqD : PyData → List PyData → Prop
  | lst {ds : List PyData} : SeqD (.list ds) ds
  | tup {ds : List PyData} : SeqD (.tuple ds) ds
theorem SeqD.at {d : PyData} {ds : List PyData} {G H : Hp} {K : PySem.W.Frag} {v : V} (k : SeqD d ds) (g : Same G H) (rv : VOk G v (D d)) : ∃ p xs, v = .ref p ∧ (SqL K H p xs ∨ SqT K H p xs) ∧ DtAll G xs ds := by
  cases k with
  | lst => obtain ⟨p, xs, rfl, h1, h2⟩ := dt_lst rv; exact ⟨p, xs, rfl, .inl (.of (g _ _ h1)), h2⟩
  | tup => obtain ⟨p, xs, rfl, h1, h2⟩ := dt_tup rv; exact ⟨p, xs, rfl, .inr (.of (g _ _ h1)), h2⟩
theorem pd_list {xs : List PyData} (hm : X.mg "list" = none) (ha : PED X δ a (D d1) δ1) (k : SeqD d1 xs) (hg : Gl X "list" := by rfl) (he : starEach [a] X.env = (false, eval a X.env) :: starEach [] X.env := by rfl) : PED X δ (.Call (.Name "list" p) [a] [] pos) (D (.list xs)) δ1 := by
  refine (pe_callTy call_list_of hg hm (by decide +kernel) (pad_cons ha pad_nil he) (he := he)).imp fun σ H Q h => tD_call (fun G H vs Q g rx q => ?_) h
  obtain ⟨v, rfl, rv⟩ := vsok1 rx
  obtain ⟨p, us, rfl, h1, h2⟩ := k.at (K := X.K) g rv
  exact ⟨p, us, rfl, h1, Ext.lst g q h2⟩
/-- tuple(a list) -/
theorem pd_tuple {xs : List PyData} (hm : X.mg "tuple" = none) (ha : PED X δ a (D (.list xs)) δ1) (hg : Gl X "tuple" := by rfl) (he : starEach [a] X.env = (false, eval a X.env) :: starEach [] X.env := by rfl) : PED X δ (.Call (.Name "tuple" p) [a] [] pos) (D (.tuple xs)) δ1 := by
  refine (pe_callTy call_tuple_of hg hm (by decide +kernel) (pad_cons ha pad_nil he) (he := he)).imp fun σ H Q h => tD_call (fun G H vs Q g rx q => ?_) h
  obtain ⟨v, rfl, rv⟩ := vsok1 rx
  obtain ⟨p, us, rfl, h1, h2⟩ := dt_lst rv
  exact ⟨p, us, rfl, .inl ⟨.of (g _ _ h1), Ext.tup g q h2⟩⟩
theorem pd_max2 {i j : Int} (hc : X.calm = true) (hm : X.mg "max" = none) (ha : PED X δ a (D (.int i)) δ1) (hb : PED X δ1 b (D (.int j)) δ2) (hg : Gl X "max" := by rfl) (he : starEach [a, b] X.env = (false, eval a X.env) :: starEach [b] X.env := by rfl)
    (he2 : starEach [b] X.env = (false, eval b X.env) :: starEach [] X.env := by rfl) : PED X δ (.Call (.Name "max" p) [a, b] [] pos) (D (.int (if j > i then j else i))) δ2 := by
  refine (pe_callB (call_max2 hc) hg hm (by decide +kernel) (pad_cons ha (pad_cons hb pad_nil he2) he) (he := he) (hpl := by rw [he2]; rfl)).imp fun σ H Q h => tD_call (fun G H xs Q g rx q => ?_) h
  obtain ⟨v, u, rfl, rv, ru⟩ := vsok2 rx
  exact ⟨i, j, by rw [dt_int rv, dt_int ru], Ext.here g q (Dt.int _)⟩
/-- list(range(n)) -/
theorem pd_listRange {n : Int} {p2 pos2 : Pos} (hc : X.calm = true) (hm : X.mg "list" = none) (hmr : X.mg "range" = none) (ha : PED X δ a (D (.int n)) δ1) (h0 : 0 ≤ n) (h1 : n ≤ 16777216) (hg : Gl X "list" := by rfl) (hgr : Gl X "range" := by rfl)
    (he : starEach [a] X.env = (false, eval a X.env) :: starEach [] X.env := by rfl) : PED X δ (.Call (.Name "list" p) [.Call (.Name "range" p2) [a] [] pos2] [] pos) (D (.list ((List.range n.toNat).map fun i => .int ((i : Nat) : Int)))) δ1 := by
  refine (pe_listRg hc hg hm (prg_1 hgr hmr ha he)).imp fun σ H Q ⟨G0, H0, G, S, q⟩ => ?_
  refine ⟨G0, H0, G, S, fun v G1 H1 g1 S1 rv => ⟨n, dt_int rv, .of_le (Int.le_refl 0) h1 (by decide) h0, ?_⟩⟩
  have e : rgV 0 n = ((List.range n.toNat).map fun i => ((i : Nat) : Int)).map V.int := by
    unfold rgV
    rw [List.map_map, Int.sub_zero]
    exact List.map_congr_left fun i _ => by simp
  rw [e]
  refine Ext.lst S1.gh (fun v G' H' x rv => q v G' H' (same_trans g1 x.gg) (S1.ext x) rv) ?_
  have h2 := dt_ints (G := G1) ((List.range n.toNat).map fun i => ((i : Nat) : Int))
  rw [List.map_map] at h2
  rw [List.map_map] at h2 ⊢
  exact h2
end
end Ct

-- DL4
set_option Elab.async false
set_option linter.all false
set_option maxRecDepth 100000
set_option maxHeartbeats 1000000
/-! DL4: a def's promise, calls; statements, blocks, loops. -/
namespace Ct
open PySem PySem.Spec L2

/-! ### promises -/
/-- arguments told by data (pre ds r: from these the answer is r), nothing that stood is changed -/
def PSp (P : Program) (w : World) (pre : List Sl → PyData → Prop) : Sp := fun vs H Q _ => ∃ G ds r, pre ds r ∧ Same G H ∧ VsOk G vs ds ∧ ∀ v G' H', Ext G H G' H' → Dt G' v r → Q v H'
/-- the module's name x is a def that keeps such a promise -/
structure Has (P : Program) (w : World) (K : PySem.W.Frag) (mg : Str → Option Value) (base : Heap) (n : Nat) (x : Str) (ps : List Str) (pre : List Sl → PyData → Prop) (f : Addr) : Prop where
  at_ : mg x = some (.ref f)
  kp : PySem.W.keepIn K (.ref f) = true
  ex : ∃ fd, Binds K fd ps [] ∧ FnOk P w K mg base CX0 n f fd ps (PSp P w pre)
section
variable {X : Cx} {e a b c : Expr} {δ δ1 δ2 δ3 δ' : List Sl} {pos : Pos} {d1 d2 r : PyData} {es : List Expr} {ds : List Sl} {p : Pos}
theorem pd_call {x : Str} {ps : List Str} {pre : List Sl → PyData → Prop} {n : Nat} {f : Addr} (F : Has X.prog X.w X.K X.mg X.base n x ps pre f) (hr : Room n X.A) (ha : PAD X δ (a :: es) ds δ1) (hp : pre ds r) (hg : Gl X x := by rfl)
    (hdb : (x == ("__debug__" : Str)) = false := by decide) (he : starEach (a :: es) X.env = (false, eval a X.env) :: starEach es X.env := by rfl) (hpl : (backTo pos (starEach es X.env)).any (·.1) = false := by rfl) :
    PED X δ (.Call (.Name x p) (a :: es) [] pos) (D r) δ1 := by
  obtain ⟨fd, hb, F'⟩ := F.ex
  refine (pe_call F' hr hg F.at_ F.kp hb .nil pass0 ha hdb he hpl).imp fun σ H Q ⟨G0, H0, G, S, q⟩ => ⟨G0, H0, G, S, fun vs G1 H1 g1 S1 rvs => ?_⟩
  refine ⟨G1, ds, r, hp, S1.gh, by rw [List.append_nil]; exact rvs, fun v G' H' x rv => q v G' H' (same_trans g1 x.gg) (S1.ext x) rv⟩
/-- a call of a local name that holds a def -/
theorem pd_callL (i : Nat) {x y : Str} {ps : List Str} {pre : List Sl → PyData → Prop} {n : Nat} {f : Addr} (F : Has X.prog X.w X.K X.mg X.base n y ps pre f) (hr : Room n X.A) (hf : δ[i]? = some (.fn f)) (ha : PAD X δ (a :: es) ds δ1) (hp : pre ds r)
    (hN : X.N[i]? = some x := by rfl) (hv : Vis X.env.scope x := by first | exact Or.inl rfl | exact Or.inr (Or.inl rfl) | exact Or.inr (Or.inr rfl))
    (hdb : (x == ("__debug__" : Str)) = false := by decide) (hcd : (x == ("__classdict__" : Str)) = false := by decide) (he : starEach (a :: es) X.env = (false, eval a X.env) :: starEach es X.env := by rfl) (hpl : (backTo pos (starEach es X.env)).any (·.1) = false := by rfl) :
    PED X δ (.Call (.Name x p) (a :: es) [] pos) (D r) δ1 := by
  obtain ⟨fd, hb, F'⟩ := F.ex
  refine (pe_callL F' hr hN hv F.kp hb .nil pass0 ha (hdb := hdb) (hcd := hcd) (he := he) (hpl := hpl)).imp fun σ H Q ⟨G0, H0, G, S, q⟩ => ⟨?_, G0, H0, G, S, fun vs G1 H1 g1 S1 rvs => ?_⟩
  · have h := S.sl i _ hf
    cases e : σ[i]? with
    | none => rw [e] at h; exact False.elim h
    | some o =>
      rw [e] at h
      cases o with
      | none => exact False.elim h
      | some v => cases (show v = .ref f from h); rfl
  · refine ⟨G1, ds, r, hp, S1.gh, by rw [List.append_nil]; exact rvs, fun v G' H' x rv => q v G' H' (same_trans g1 x.gg) (S1.ext x) rv⟩
end

/-! ### statements -/
inductive Out
  | nx (δ : List Sl)
  | rt (d : PyData) (δ : List Sl)
  | bk (δ : List Sl)
  | ct (δ : List Sl)
def OutK (P : Program) (w : World) (G0 H0 G : Hp) (E : Ends) : Out → Prop
  | .nx δ => ∀ σ G' H', Same G G' → StOk P w G0 H0 δ σ G' H' → E.nx σ H'
  | .rt d δ => ∀ v σ G' H', Same G G' → StOk P w G0 H0 δ σ G' H' → Dt G' v d → E.rt v H'
  | .bk δ => ∀ σ G' H', Same G G' → StOk P w G0 H0 δ σ G' H' → E.bk σ H'
  | .ct δ => ∀ σ G' H', Same G G' → StOk P w G0 H0 δ σ G' H' → E.ct σ H'
theorem OutK.up {P : Program} {w : World} {G0 H0 G G' : Hp} {E : Ends} {o : Out} (h : OutK P w G0 H0 G E o) (e : Same G G') : OutK P w G0 H0 G' E o := by
  cases o with
  | nx δ => exact fun σ G2 H2 g S => h σ G2 H2 (same_trans e g) S
  | rt d δ => exact fun v σ G2 H2 g S => h v σ G2 H2 (same_trans e g) S
  | bk δ => exact fun σ G2 H2 g S => h σ G2 H2 (same_trans e g) S
  | ct δ => exact fun σ G2 H2 g S => h σ G2 H2 (same_trans e g) S
def tDS (P : Program) (w : World) (δ : List Sl) (o : Out) : TS := fun E σ H => ∃ G0 H0 G, StOk P w G0 H0 δ σ G H ∧ OutK P w G0 H0 G E o
/-- blocks, one behind the other -/
def wpB (X : Cx) (pins : List (Addr × Obj)) (E : Ends) : List (List Stmt) → Shared → Prop
  | [], s => SP X pins E .next s
  | b :: bs, s => wpAny (model X.prog X.w) X.A (execs b X.env) (fun f s' => match f with
    | .next => wpB X pins E bs s'
    | .ret u => SP X pins E (.ret u) s'
    | .brk => SP X pins E .brk s'
    | .cont => SP X pins E .cont s') X.xe s
structure PB (X : Cx) (bs : List (List Stmt)) (t : TS) : Prop where
  run : ∀ (pins : List (Addr × Obj)) (s : Shared) (σ : L2.St) (H : Hp) (E : Ends), Inv X pins σ H s → t E σ H → wpB X pins E bs s
abbrev PBD (X : Cx) (δ : List Sl) (bs : List (List Stmt)) (o : Out) : Prop := PB X bs (tDS X.prog X.w δ o)
section
variable {X : Cx} {st : Stmt} {b rest : List Stmt} {bs : List (List Stmt)} {δ δ1 δ2 δ' : List Sl} {o : Out} {pos : Pos} {e c tg : Expr}
theorem PB.imp {t t' : TS} (h : PB X bs t) (k : ∀ E σ H, t' E σ H → t E σ H) : PB X bs t' := ⟨fun pins s σ H E I q => h.run pins s σ H E I (k E σ H q)⟩
/-- whatever is shown of it -/
def anyB (X : Cx) (bs : List (List Stmt)) : TS := fun E σ H => ∃ t, PB X bs t ∧ t E σ H
theorem PB.any : PB X bs (anyB X bs) := ⟨fun pins s σ H E I ⟨t, h, q⟩ => h.run pins s σ H E I q⟩
def anyS (X : Cx) (b : List Stmt) : TS := fun E σ H => ∃ t, PSs X b t ∧ t E σ H
theorem any_pss : PSs X b (anyS X b) := ⟨fun pins s σ H E I ⟨t, h, q⟩ => h.run pins s σ H E I q⟩
def anyG (X : Cx) (tg : Expr) : TG := fun v σ H Q => ∃ t, PG X tg t ∧ t v σ H Q
theorem any_pg : PG X tg (anyG X tg) := ⟨fun pins s σ H v u Q I r ⟨t, h, q⟩ => h.run pins s σ H v u Q I r q⟩
def anyT (X : Cx) (c : Expr) : TT := fun σ H Q => ∃ t, PT X c t ∧ t σ H Q
theorem any_pt : PT X c (anyT X c) := ⟨fun pins s σ H Q I ⟨t, h, q⟩ => h.run pins s σ H Q I q⟩
theorem PB.pss {t : TS} (h : PB X [b] t) : PSs X b t := ⟨fun pins s σ H E I q => thn (h.run pins s σ H E I q) fun f s' z => by
  cases f with
  | next => exact z
  | ret u => exact z
  | brk => exact z
  | cont => exact z⟩
theorem pb_cons {t : TS} (h : PS X st t) : PB X ((st :: rest) :: bs) (fun E σ H => t { E with nx := anyB X (rest :: bs) E } σ H) := by
  refine ⟨fun pins s σ H E I q => ?_⟩
  refine wpAny_execs_cons (thn (h.run pins s σ H _ I q) fun f s1 z => ?_)
  cases f with
  | next =>
    obtain ⟨σ', H', I', t', h', q'⟩ := z
    exact h'.run pins s1 σ' H' E I' q'
  | ret u => exact z
  | brk => exact z
  | cont => exact z
theorem pbd_nil : PBD X δ [] (.nx δ) := ⟨fun pins s σ H E I ⟨G0, H0, G, S, q⟩ => ⟨σ, H, I, q σ G H (same_refl _) S⟩⟩
theorem pbd_pop (h : PBD X δ bs o) : PBD X δ ([] :: bs) o := ⟨fun pins s σ H E I q => wpAny_execs_nil (h.run pins s σ H E I q)⟩
/-- less is known -/
theorem pbd_weak (k : Wk δ δ') (hl : δ'.length ≤ δ.length) (h : PBD X δ' bs o) : PBD X δ bs o := h.imp fun E σ H ⟨G0, H0, G, S, q⟩ => ⟨G0, H0, G, S.weak k hl, q⟩
/-- a list of its own becomes data -/
theorem pbd_freeze (i : Nat) {ds : List PyData} (hi : δ[i]? = some (.lst ds)) (h : PBD X (δ.set i (D (.list ds))) bs o) : PBD X δ bs o := h.imp fun E σ H ⟨G0, H0, G, S, q⟩ => by
  obtain ⟨G', g, S'⟩ := S.freeze hi
  exact ⟨G0, H0, G', S', q.up g⟩
/-- a statement behind which δ1 is known -/
theorem pbd_stmt (h : PS X st (tDS X.prog X.w δ (.nx δ1))) (hr : PBD X δ1 (rest :: bs) o) : PBD X δ ((st :: rest) :: bs) o :=
  (pb_cons h).imp fun E σ H ⟨G0, H0, G, S, q⟩ => ⟨G0, H0, G, S, fun σ' G' H' g S' => ⟨_, hr, G0, H0, G', S', q.up g⟩⟩
theorem pbd_drop {d : Sl} (h : PED X δ e d δ1) (hr : PBD X δ1 (rest :: bs) o) (hs : swapsWith e none pos.line X.env = pure false := by rfl) : PBD X δ ((.Expr e pos :: rest) :: bs) o :=
  (pb_cons (ps_expr h hs)).imp fun E σ H ⟨G0, H0, G, S, q⟩ => ⟨G0, H0, G, S, fun v G' H' g S' rv => ⟨_, hr, G0, H0, G', S', q.up g⟩⟩
theorem pbd_ret {d : PyData} (h : PED X δ e (D d) δ1) (k : Wk δ1 δ') (hl : δ'.length ≤ δ1.length) : PBD X δ ((.Return (some e) pos :: rest) :: bs) (.rt d δ') :=
  (pb_cons (ps_ret h)).imp fun E σ H ⟨G0, H0, G, S, q⟩ => ⟨G0, H0, G, S, fun v G' H' g S' rv => q v σ G' H' g (S'.weak k hl) rv⟩
theorem pbd_ret0 {d : PyData} (h : PED X δ e (D d) δ1) : PBD X δ ((.Return (some e) pos :: rest) :: bs) (.rt d []) := pbd_ret h Wk.nil (Nat.zero_le _)
theorem pbd_break : PBD X δ ((.Break pos :: rest) :: bs) (.bk δ) := (pb_cons ps_break).imp fun E σ H ⟨G0, H0, G, S, q⟩ => q σ G H (same_refl _) S
theorem pbd_cont : PBD X δ ((.Continue pos :: rest) :: bs) (.ct δ) := (pb_cons ps_continue).imp fun E σ H ⟨G0, H0, G, S, q⟩ => q σ G H (same_refl _) S
/-- name = value -/
theorem pbd_set (i : Nat) {x : Str} {s : Sl} {pos' : Pos} (hN : X.N.Nodup) (h : PED X δ e s δ1) (hr : PBD X (δ1.set i s) (rest :: bs) o) (hi : X.N[i]? = some x := by rfl) (hx : Loc X.env.scope x := by first | exact Or.inl rfl | exact Or.inr rfl)
    (hs : swapsWith e (some (.Name x pos')) pos.line X.env = pure false := by rfl) (hf : X.fn x = true ∨ X.env.scope.names.lookup x = some .local := by first | exact .inl rfl | exact .inr rfl | assumption) :
    PBD X δ ((.Assign [.Name x pos'] e pos :: rest) :: bs) o :=
  (pb_cons (ps_set hN hi hx h hs hf)).imp fun E σ H ⟨G0, H0, G, S, q⟩ => ⟨G0, H0, G, S, fun v G' H' g S' rv => ⟨_, hr, G0, H0, G', S'.store rv, q.up g⟩⟩
/-- an if whose test is known -/
theorem pbd_ifT {a b' : List Stmt} (hc : PTD X δ c true δ1) (h : PBD X δ1 (a :: rest :: bs) o) : PBD X δ ((.If c a b' pos :: rest) :: bs) o := by
  refine ⟨fun pins s σ H E I ⟨G0, H0, G, S, q⟩ => ?_⟩
  refine wpAny_execs_cons (wpAny_If (thn (hc.run pins s σ H (fun k H1 => k = true ∧ ∃ G', Same G G' ∧ StOk X.prog X.w G0 H0 δ1 σ G' H1) I ⟨G0, H0, G, S, fun G' H' g S' => ⟨rfl, G', g, S'⟩⟩) fun d s1 ⟨H1, I1, ed, G', g, S'⟩ => ?_))
  subst ed
  exact thn (h.run pins s1 σ H1 E I1 ⟨G0, H0, G', S', q.up g⟩) fun f s2 z => by
    cases f with
    | next => exact z
    | ret u => exact z
    | brk => exact z
    | cont => exact z
theorem pbd_ifF {a b' : List Stmt} (hc : PTD X δ c false δ1) (h : PBD X δ1 (b' :: rest :: bs) o) : PBD X δ ((.If c a b' pos :: rest) :: bs) o := by
  refine ⟨fun pins s σ H E I ⟨G0, H0, G, S, q⟩ => ?_⟩
  refine wpAny_execs_cons (wpAny_If (thn (hc.run pins s σ H (fun k H1 => k = false ∧ ∃ G', Same G G' ∧ StOk X.prog X.w G0 H0 δ1 σ G' H1) I ⟨G0, H0, G, S, fun G' H' g S' => ⟨rfl, G', g, S'⟩⟩) fun d s1 ⟨H1, I1, ed, G', g, S'⟩ => ?_))
  subst ed
  exact thn (h.run pins s1 σ H1 E I1 ⟨G0, H0, G', S', q.up g⟩) fun f s2 z => by
    cases f with
    | next => exact z
    | ret u => exact z
    | brk => exact z
    | cont => exact z
theorem pbd_if {a b' : List Stmt} {k : Bool} (hc : PTD X δ c k δ1) (h1 : k = true → PBD X δ1 (a :: rest :: bs) o) (h2 : k = false → PBD X δ1 (b' :: rest :: bs) o) : PBD X δ ((.If c a b' pos :: rest) :: bs) o := by
  cases k with
  | true => exact pbd_ifT hc (h1 rfl)
  | false => exact pbd_ifF hc (h2 rfl)

/-! ### targets -/
/-- a target takes a value that is data -/
def tDG (P : Program) (w : World) (δ : List Sl) (d : PyData) (δ' : List Sl) : TG := fun v σ H Q => ∃ G0 H0 G, StOk P w G0 H0 δ σ G H ∧ Dt G v d ∧ ∀ σ' G' H', Same G G' → StOk P w G0 H0 δ' σ' G' H' → Q σ' H'
def tDGs (P : Program) (w : World) (δ : List Sl) (ds : List PyData) (δ' : List Sl) : TGs := fun vs σ H Q => ∃ G0 H0 G, StOk P w G0 H0 δ σ G H ∧ DtAll G vs ds ∧ ∀ σ' G' H', Same G G' → StOk P w G0 H0 δ' σ' G' H' → Q σ' H'
abbrev PGD (X : Cx) (δ : List Sl) (tg : Expr) (d : PyData) (δ' : List Sl) : Prop := PG X tg (tDG X.prog X.w δ d δ')
abbrev PGDs (X : Cx) (δ : List Sl) (tgs : List Expr) (ds : List PyData) (δ' : List Sl) : Prop := PGs X tgs (tDGs X.prog X.w δ ds δ')
theorem _root_.L2.PG.imp {t t' : TG} (h : PG X tg t) (k : ∀ v σ H Q, t' v σ H Q → t v σ H Q) : PG X tg t' := ⟨fun pins s σ H v u Q I r q => h.run pins s σ H v u Q I r (k v σ H Q q)⟩
theorem _root_.L2.PGs.imp {tgs : List Expr} {t t' : TGs} (h : PGs X tgs t) (k : ∀ v σ H Q, t' v σ H Q → t v σ H Q) : PGs X tgs t' := ⟨fun pins s σ H v u Q I r q => h.run pins s σ H v u Q I r (k v σ H Q q)⟩
variable {d : PyData} {ds : List PyData} {tgs : List Expr}
theorem pgd_name (i : Nat) {x : Str} (hN : X.N.Nodup) (hi : X.N[i]? = some x := by rfl) (hx : Loc X.env.scope x := by first | exact Or.inl rfl | exact Or.inr rfl) (hf : X.fn x = true ∨ X.env.scope.names.lookup x = some .local := by first | exact .inl rfl | exact .inr rfl | assumption) :
    PGD X δ (.Name x pos) d (δ.set i (D d)) :=
  (pg_name hN hi hx hf).imp fun v σ H Q ⟨G0, H0, G, S, rv, q⟩ => q _ G H (same_refl _) (S.store (s := D d) rv)
theorem pgds_nil : PGDs X δ [] [] δ := pgs_nil.imp fun vs σ H Q ⟨G0, H0, G, S, rv, q⟩ => ⟨by cases rv; rfl, q σ G H (same_refl _) S⟩
theorem pgds_cons (h : PGD X δ tg d δ1) (hr : PGDs X δ1 tgs ds δ2) (hs : (assignEach (tg :: tgs) X.env).map (·.2) = assign tg X.env :: (assignEach tgs X.env).map (·.2) := by rfl) : PGDs X δ (tg :: tgs) (d :: ds) δ2 :=
  (pgs_cons h hr hs).imp fun vs σ H Q ⟨G0, H0, G, S, rv, q⟩ => by
    cases rv with
    | cons r1 r2 => exact ⟨_, _, rfl, G0, H0, G, S, r1, fun σ1 G1 H1 g1 S1 => ⟨G0, H0, G1, S1, DtAll.up r2 g1, fun σ2 G2 H2 g2 S2 => q σ2 G2 H2 (same_trans g1 g2) S2⟩⟩
theorem pgd_tup {k : Nat} (hc : X.calm = true) (h : PGDs X δ tgs ds δ1) (hn : (assignEach tgs X.env).length = ds.length := by rfl) (hst : (assignEach tgs X.env).findIdx? (·.1) = none := by rfl) : PGD X δ (.Tuple tgs k pos) (.tuple ds) δ1 :=
  (pg_tup hc h hn hst).imp fun v σ H Q ⟨G0, H0, G, S, rv, q⟩ => by
    obtain ⟨p, xs, rfl, h1, h2⟩ := dt_tup rv
    exact ⟨p, xs, rfl, .of (S.gh _ _ h1), h2.length, G0, H0, G, S, h2, q⟩
/-- target = value -/
theorem pbd_asg (h : PED X δ e (D d) δ1) (hg : PGD X δ1 tg d δ2) (hr : PBD X δ2 (rest :: bs) o) (hs : swapsWithSole [tg] e pos.line X.env = pure false := by rfl) (hw : swappedStores [tg] e X.env = pure none := by rfl)
    (h1 : (assignEach [tg] X.env).map (·.2) = [assign tg X.env] := by rfl) : PBD X δ ((.Assign [tg] e pos :: rest) :: bs) o :=
  (pb_cons (ps_asg h hg hs hw h1)).imp fun E σ H ⟨G0, H0, G, S, q⟩ => ⟨G0, H0, G, S, fun v G1 H1 g1 S1 rv => ⟨G0, H0, G1, S1, rv, fun σ2 G2 H2 g2 S2 => ⟨_, hr, G0, H0, G2, S2, q.up (same_trans g1 g2)⟩⟩⟩
/-- name += an int -/
theorem pbd_addI (i : Nat) {x : Str} {m n : Int} {pos' : Pos} (hN : X.N.Nodup) (hx0 : δ[i]? = some (D (.int m))) (h : PED X δ e (D (.int n)) δ1) (hr : PBD X (δ1.set i (D (.int (m + n)))) (rest :: bs) o) (hi : X.N[i]? = some x := by rfl)
    (hx : Loc X.env.scope x := by first | exact Or.inl rfl | exact Or.inr rfl) (hf : X.fn x = true ∨ X.env.scope.names.lookup x = some .local := by first | exact .inl rfl | exact .inr rfl | assumption) :
    PBD X δ ((.AugAssign (.Name x pos') .Add e pos :: rest) :: bs) o :=
  (pb_cons (ps_aug hN hi hx h ip_add hf)).imp fun E σ H ⟨G0, H0, G, S, q⟩ => by
    have h0 := S.sl i _ hx0
    cases e0 : σ[i]? with
    | none => rw [e0] at h0; exact False.elim h0
    | some o =>
      rw [e0] at h0
      cases o with
      | none => exact False.elim h0
      | some v =>
        have ev : v = .int m := dt_int (G := G) h0
        exact ⟨v, e0, G0, H0, G, S, fun y G1 H1 g1 S1 ry => ⟨m, n, ev, dt_int ry, ⟨_, hr, G0, H0, G1, S1.store (s := D _) (Dt.int _), q.up g1⟩⟩⟩

/-! ### what is walked -/
/-- the items of a walk by data: as they stand, or new tuples -/
structure ItOk (J : It) (items : List PyData) (G : Hp) : Prop where
  go : ∀ (i : Nat) (d : PyData) (H : Hp), items[i]? = some d → Same G H → J.go i H
  yl : ∀ (i : Nat) (d : PyData) (H : Hp) (x : V) (H' : Hp), items[i]? = some d → Same G H → J.yld i H x H' →
    (H' = H ∧ Dt G x d) ∨ ∃ T xs ds, x = .ref T ∧ H T = none ∧ H' = upd H T (.tup xs) ∧ d = .tuple ds ∧ DtAll G xs ds
  st : ∀ H : Hp, Same G H → J.stop items.length H
def tDI (P : Program) (w : World) (δ : List Sl) (items : List PyData) (δ' : List Sl) : TI := fun σ H R => ∃ G0 H0 G, StOk P w G0 H0 δ σ G H ∧ ∀ J G' H', Same G G' → StOk P w G0 H0 δ' σ G' H' → ItOk J items G' → R J H'
abbrev PID (X : Cx) (δ : List Sl) (tg e : Expr) (items : List PyData) (δ' : List Sl) : Prop := PI X tg e (tDI X.prog X.w δ items δ')
theorem _root_.L2.PI.imp {t t' : TI} (h : PI X tg e t) (k : ∀ σ H Q, t' σ H Q → t σ H Q) : PI X tg e t' := ⟨fun pins s σ H R I q => h.run pins s σ H R I (k σ H R q)⟩
variable {items : List PyData}
/-- what a turn takes -/
theorem StOk.turn {P : Program} {w : World} {G0 H0 G G1 H H' : Hp} {σ : L2.St} {J : It} {i : Nat} {x : V} (S : StOk P w G0 H0 δ σ G H) (k : ItOk J items G1) (g : Same G1 G) (hi : items[i]? = some d) (y : J.yld i H x H') : ∃ G', Same G G' ∧ StOk P w G0 H0 δ σ G' H' ∧ Dt G' x d := by
  rcases k.yl i d H x H' hi (same_trans g S.gh) y with ⟨rfl, r⟩ | ⟨T, xs, ds, rfl, hT, rfl, rfl, ha⟩
  · exact ⟨G, same_refl _, S, Dt.up r g⟩
  · have x : Ext G H (upd G T (.tup xs)) (upd H T (.tup xs)) := .new S.gh hT
    exact ⟨_, x.gg, S.ext x, Dt.tup upd_same (DtAll.up ha (same_trans g x.gg))⟩
/-- for target in iter: I the word of the turn and the state; out the block's end -/
theorem pbd_for {body : List Stmt} (hc : X.calm = true) (hi : PID X δ tg e items δ1) (I : Nat → List Sl → Prop) (h0 : I 0 δ1)
    (turn : ∀ (i : Nat) (d : PyData) (δa : List Sl), items[i]? = some d → I i δa → ∃ δb o', PGD X δa tg d δb ∧ PBD X δb [body] o' ∧ match o' with
      | .nx δ' => I (i + 1) δ'
      | .ct δ' => I (i + 1) δ'
      | .rt r δ' => o = .rt r δ'
      | .bk δ' => PBD X δ' (rest :: bs) o)
    (done : ∀ δa : List Sl, I items.length δa → PBD X δa (rest :: bs) o) (hp : PassesOwn (model X.prog X.w) X.A X.env X.xe := by exact PassesOwn.never)
    (hs : ∀ x, foldedSetIterable e X.env x = pure x := by intro _; rfl) : PBD X δ ((.For tg e body [] pos :: rest) :: bs) o := by
  refine (pb_cons (ps_for hp hc hi any_pg any_pss hs)).imp fun E σ H ⟨G0, H0, G, S, q⟩ => ⟨G0, H0, G, S, fun J G1 H1 g1 S1 hJ => ?_⟩
  refine ⟨fun i m σ H => m = items.length - i ∧ i ≤ items.length ∧ ∃ δa G2, I i δa ∧ Same G1 G2 ∧ StOk X.prog X.w G0 H0 δa σ G2 H, ⟨items.length, by omega, Nat.zero_le _, δ1, G1, h0, same_refl _, S1⟩, ?_⟩
  rintro i m σ H ⟨rfl, hil, δa, G2, hI, g2, S2⟩
  by_cases hlt : i < items.length
  · have hd : items[i]? = some items[i] := List.getElem?_eq_getElem hlt
    obtain ⟨δb, o', hg, hb, ho⟩ := turn i items[i] δa hd hI
    refine .inr ⟨hJ.go i _ H hd (same_trans g2 S2.gh), fun σ' H' => ∃ δ' G3, I (i + 1) δ' ∧ Same G1 G3 ∧ StOk X.prog X.w G0 H0 δ' σ' G3 H', fun σ' H' ⟨δ', G3, w1, w2, w3⟩ => ⟨items.length - (i + 1), by omega, rfl, hlt, δ', G3, w1, w2, w3⟩, fun x H' y => ?_⟩
    obtain ⟨G3, g3, S3, r3⟩ := S2.turn hJ g2 hd y
    have gg : Same G G3 := same_trans g1 (same_trans g2 g3)
    refine ⟨_, hg, G0, H0, G3, S3, r3, fun σ4 G4 H4 g4 S4 => ⟨_, hb.pss, G0, H0, G4, S4, ?_⟩⟩
    have g14 : Same G1 G4 := same_trans (same_trans g2 g3) g4
    cases o' with
    | nx δ' => exact fun σ5 G5 H5 g5 S5 => ⟨δ', G5, ho, same_trans g14 g5, S5⟩
    | ct δ' => exact fun σ5 G5 H5 g5 S5 => ⟨δ', G5, ho, same_trans g14 g5, S5⟩
    | rt r δ' =>
      subst ho
      exact fun v σ5 G5 H5 g5 S5 r5 => q v σ5 G5 H5 (same_trans gg (same_trans g4 g5)) S5 r5
    | bk δ' => exact fun σ5 G5 H5 g5 S5 => ⟨_, ho, G0, H0, G5, S5, q.up (same_trans gg (same_trans g4 g5))⟩
  · have e : i = items.length := by omega
    subst e
    exact .inl ⟨hJ.st H (same_trans g2 S2.gh), _, done δa hI, G0, H0, G2, S2, q.up (same_trans g1 g2)⟩
/-- while: I by a measure; at each state the test is known -/
theorem pbd_while {body : List Stmt} (I : Nat → List Sl → Prop) {m0 : Nat} (h0 : I m0 δ)
    (turn : ∀ (m : Nat) (δa : List Sl), I m δa → ∃ k, PTD X δa c k δa ∧ (k = true → ∃ o', PBD X δa [body] o' ∧ match o' with
      | .nx δ' => ∃ m', m' < m ∧ I m' δ'
      | .ct δ' => ∃ m', m' < m ∧ I m' δ'
      | .rt r δ' => o = .rt r δ'
      | .bk δ' => PBD X δ' (rest :: bs) o) ∧ (k = false → PBD X δa (rest :: bs) o))
    (hp : PassesOwn (model X.prog X.w) X.A X.env X.xe := by exact PassesOwn.never) : PBD X δ ((.While c body [] pos :: rest) :: bs) o := by
  refine (pb_cons (ps_while hp any_pt any_pss)).imp fun E σ H ⟨G0, H0, G, S, q⟩ => ?_
  refine ⟨fun m σ H => ∃ δa G2, I m δa ∧ Same G G2 ∧ StOk X.prog X.w G0 H0 δa σ G2 H, ⟨m0, δ, G, h0, same_refl _, S⟩, ?_⟩
  rintro m σ H ⟨δa, G2, hI, g2, S2⟩
  obtain ⟨k, hk, h1, h2⟩ := turn m δa hI
  refine ⟨_, hk, G0, H0, G2, S2, fun G3 H3 g3 S3 => ?_⟩
  cases k with
  | true =>
    obtain ⟨o', hb, ho⟩ := h1 rfl
    refine iteT ⟨fun σ' H' => ∃ m', m' < m ∧ ∃ δ' G4, I m' δ' ∧ Same G G4 ∧ StOk X.prog X.w G0 H0 δ' σ' G4 H', fun σ' H' z => z, _, hb.pss, G0, H0, G3, S3, ?_⟩
    have gg := same_trans g2 g3
    cases o' with
    | nx δ' => obtain ⟨m', hm, hI'⟩ := ho; exact fun σ5 G5 H5 g5 S5 => ⟨m', hm, δ', G5, hI', same_trans gg g5, S5⟩
    | ct δ' => obtain ⟨m', hm, hI'⟩ := ho; exact fun σ5 G5 H5 g5 S5 => ⟨m', hm, δ', G5, hI', same_trans gg g5, S5⟩
    | rt r δ' =>
      subst ho
      exact fun v σ5 G5 H5 g5 S5 r5 => q v σ5 G5 H5 (same_trans gg g5) S5 r5
    | bk δ' => exact fun σ5 G5 H5 g5 S5 => ⟨_, ho, G0, H0, G5, S5, q.up (same_trans gg g5)⟩
  | false => exact iteF ⟨_, h2 rfl, G0, H0, G3, S3, q.up (same_trans g2 g3)⟩
end
end Ct

-- DL5
set_option Elab.async false
set_option linter.all false
set_option maxRecDepth 100000
set_option maxHeartbeats 1000000
/-! DL5: what is walked (lists, tuples, texts, ranges, enumerate, zip), comprehensions. -/
namespace Ct
open PySem PySem.Spec L2

/-! ### walks -/
section
variable {X : Cx} {e a b tg : Expr} {δ δ1 δ2 δ' : List Sl} {pos p : Pos} {items : List PyData}
theorem pid_list (h : PED X δ e (D (.list items)) δ1) : PID X δ tg e items δ1 :=
  (pi_list h).imp fun σ H R ⟨G0, H0, G, S, q⟩ => ⟨G0, H0, G, S, fun v G1 H1 g1 S1 rv => by
    obtain ⟨p, xs, rfl, h1, h2⟩ := dt_lst rv
    refine ⟨p, rfl, ⟨xs, .of (S1.gh _ _ h1)⟩, q _ G1 H1 g1 S1 ⟨fun i d H hd g => ?_, fun i d H x H' hd g y => ?_, fun H g => ⟨xs, .of (g _ _ h1), by rw [h2.length]; exact Nat.le_refl _⟩⟩⟩
    · obtain ⟨v, e1, _⟩ := h2.get hd
      exact ⟨xs, v, .of (g _ _ h1), e1⟩
    · obtain ⟨rfl, f⟩ := y
      obtain ⟨v, e1, e2⟩ := h2.get hd
      rw [f xs (.of (g _ _ h1))] at e1; cases e1
      exact .inl ⟨rfl, e2⟩⟩
theorem pid_tup (h : PED X δ e (D (.tuple items)) δ1) : PID X δ tg e items δ1 :=
  (pi_tup h).imp fun σ H R ⟨G0, H0, G, S, q⟩ => ⟨G0, H0, G, S, fun v G1 H1 g1 S1 rv => by
    obtain ⟨p, xs, rfl, h1, h2⟩ := dt_tup rv
    refine ⟨p, rfl, ⟨xs, .of (S1.gh _ _ h1)⟩, q _ G1 H1 g1 S1 ⟨fun i d H hd g => ?_, fun i d H x H' hd g y => ?_, fun H g => ⟨xs, .of (g _ _ h1), by rw [h2.length]; exact Nat.le_refl _⟩⟩⟩
    · obtain ⟨v, e1, _⟩ := h2.get hd
      exact ⟨xs, v, .of (g _ _ h1), e1⟩
    · obtain ⟨rfl, f⟩ := y
      obtain ⟨v, e1, e2⟩ := h2.get hd
      rw [f xs (.of (g _ _ h1))] at e1; cases e1
      exact .inl ⟨rfl, e2⟩⟩
/-- a text's signs -/
def signs (z : Str) : List PyData := z.cps.toList.map fun c => .str ⟨#[c]⟩
theorem pid_str {z : Str} (h : PED X δ e (D (.str z)) δ1) : PID X δ tg e (signs z) δ1 :=
  (pi_str h).imp fun σ H R ⟨G0, H0, G, S, q⟩ => ⟨G0, H0, G, S, fun v G1 H1 g1 S1 rv => by
    have hl : (signs z).length = z.cps.size := by unfold signs; simp
    refine ⟨z, dt_str rv, q _ G1 H1 g1 S1 ⟨fun i d H hd g => ?_, fun i d H x H' hd g y => ?_, fun H g => ?_⟩⟩
    · show i < z.cps.size
      rw [← hl]; exact (List.getElem?_eq_some_iff.mp hd).1
    · obtain ⟨rfl, c, hc, rfl⟩ := y
      unfold signs at hd
      rw [List.getElem?_map, Array.getElem?_toList, hc] at hd
      cases hd
      exact .inl ⟨rfl, .str _⟩
    · show z.cps.size ≤ (signs z).length
      rw [hl]; exact Nat.le_refl _⟩
/-- range(n) -/
def upto (lo : Int) (n : Nat) : List PyData := (List.range n).map fun i => .int (lo + ((i : Nat) : Int))
theorem upto_it {lo : Int} {n : Nat} {G : Hp} : ItOk (Itr lo n) (upto lo n) G := by
  have hl : (upto lo n).length = n := by unfold upto; simp
  refine ⟨fun i d H hd g => ?_, fun i d H x H' hd g y => ?_, fun H g => ?_⟩
  · show i < n
    rw [← hl]; exact (List.getElem?_eq_some_iff.mp hd).1
  · obtain ⟨rfl, rfl⟩ := y
    have hi := (List.getElem?_eq_some_iff.mp hd).1
    rw [hl] at hi
    unfold upto at hd
    rw [List.getElem?_map, List.getElem?_range hi] at hd
    cases hd
    exact .inl ⟨rfl, .int _⟩
  · show n ≤ (upto lo n).length
    rw [hl]; exact Nat.le_refl _
theorem pid_range1 {n : Int} (hm : X.mg "range" = none) (ha : PED X δ a (D (.int n)) δ1) (h0 : -(2 ^ 62) ≤ n) (h1 : n < 2 ^ 62) (hg : Gl X "range" := by rfl) (hs : starEach [a] X.env = [(false, eval a X.env)] := by rfl) :
    PID X δ tg (.Call (.Name "range" p) [a] [] pos) (upto 0 n.toNat) δ1 :=
  (pi_range1 hg hm (pad_cons ha pad_nil hs) hs).imp fun σ H R ⟨G0, H0, G, S, q⟩ => ⟨G0, H0, G, S, fun vs G1 H1 g1 S1 rv => by
    obtain ⟨v, rfl, rv1⟩ := vsok1 rv
    exact ⟨n, by rw [dt_int rv1], h0, h1, q _ G1 H1 g1 S1 upto_it⟩⟩
theorem pid_range2 {m n : Int} (hm : X.mg "range" = none) (ha : PED X δ a (D (.int m)) δ1) (hb : PED X δ1 b (D (.int n)) δ2) (h0 : -(2 ^ 62) ≤ m ∧ m < 2 ^ 62 ∧ -(2 ^ 62) ≤ n ∧ n < 2 ^ 62) (hg : Gl X "range" := by rfl)
    (hs : starEach [a, b] X.env = [(false, eval a X.env), (false, eval b X.env)] := by rfl) (hs2 : starEach [b] X.env = [(false, eval b X.env)] := by rfl) :
    PID X δ tg (.Call (.Name "range" p) [a, b] [] pos) (upto m (n - m).toNat) δ2 :=
  (pi_range2 hg hm (pad_cons ha (pad_cons hb pad_nil hs2) (by rw [hs, hs2])) hs hs2).imp fun σ H R ⟨G0, H0, G, S, q⟩ => ⟨G0, H0, G, S, fun vs G1 H1 g1 S1 rv => by
    obtain ⟨v, u, rfl, rv1, ru⟩ := vsok2 rv
    exact ⟨m, n, by rw [dt_int rv1, dt_int ru], h0, q _ G1 H1 g1 S1 upto_it⟩⟩
/-- enumerate(a list) -/
def numbered (ds : List PyData) : List PyData := ds.mapIdx fun i d => .tuple [.int ((i : Nat) : Int), d]
theorem pid_enum {ds : List PyData} {elts : List Expr} {kk : Nat} {tpos : Pos} (hm : X.mg "enumerate" = none) (ha : PED X δ a (D (.list ds)) δ1) (hg : Gl X "enumerate" := by rfl) (hs : starEach [a] X.env = [(false, eval a X.env)] := by rfl) :
    PID X δ (.Tuple elts kk tpos) (.Call (.Name "enumerate" p) [a] [] pos) (numbered ds) δ1 :=
  (pi_enum hg hm (pad_cons ha pad_nil hs) hs).imp fun σ H R ⟨G0, H0, G, S, q⟩ => ⟨G0, H0, G, S, fun vs G1 H1 g1 S1 rv => by
    obtain ⟨v, rfl, rv1⟩ := vsok1 rv
    obtain ⟨p, xs, rfl, h1, h2⟩ := dt_lst rv1
    have hl : (numbered ds).length = xs.length := by unfold numbered; rw [List.length_mapIdx, h2.length]
    refine ⟨p, xs, rfl, .of (S1.gh _ _ h1), q _ G1 H1 g1 S1 ⟨fun i d H hd g => ?_, fun i d H x H' hd g y => ?_, fun H g => ⟨xs, .of (g _ _ h1), by rw [hl]; exact Nat.le_refl _⟩⟩⟩
    · have hi := (List.getElem?_eq_some_iff.mp hd).1
      rw [hl] at hi
      exact ⟨xs, xs[i], .of (g _ _ h1), List.getElem?_eq_getElem hi⟩
    · obtain ⟨T, x, rfl, hT, rfl, f⟩ := y
      obtain ⟨d', e1, e2⟩ := h2.get' (f xs (.of (g _ _ h1)))
      unfold numbered at hd
      rw [List.getElem?_mapIdx, e1] at hd
      cases hd
      exact .inr ⟨T, _, _, rfl, hT, rfl, rfl, .cons (.int _) (.cons e2 .nil)⟩⟩
end

/-! ### zip of lists and tuples in any mix -/
/-- a list (true) or a tuple (false) -/
def SqB (K : PySem.W.Frag) (H : Hp) (k : Bool) (a : Addr) (xs : List V) : Prop := if k = true then SqL K H a xs else SqT K H a xs
def IsSq (h : Heap) (k : Bool) (a : Addr) (its : Array Value) : Prop := if k = true then h.IsList a its else h.IsTuple a its
def IsSqIter (h : Heap) (k : Bool) (it a : Addr) (i : Nat) : Prop := if k = true then h.IsListIter it a i else h.IsTupleIter it a i
section
variable {X : Cx} {pins : List (Addr × Obj)} {σ : L2.St} {H : Hp} {s : Shared} {h h' : Heap} {k : Bool} {it a : Addr} {i : Nat} {xs ys : List V}
theorem Inv.sqB (I : Inv X pins σ H s) (hq : SqB X.K H k a xs) : ∃ its : List Value, Vals xs its ∧ IsSq s.heap k a its.toArray := by
  cases k with
  | true => obtain ⟨its, r, p, _⟩ := I.list (show SqL X.K H a xs from hq); exact ⟨its, r, p.isList⟩
  | false => obtain ⟨its, r, p, _⟩ := I.tuple (show SqT X.K H a xs from hq); exact ⟨its, r, p⟩
theorem Inv.sqB_inj (I : Inv X pins σ H s) (hq : SqB X.K H k a xs) (hq' : SqB X.K H k a ys) : xs = ys := by
  cases k with
  | true => exact I.list_inj hq hq'
  | false => exact I.tuple_inj hq hq'
theorem IsSqIter.at (st : IsSqIter h k it a i) (e : ∀ o, h.get? it = some o → h'.get? it = some o) : IsSqIter h' k it a i := by
  cases k with
  | true => exact (show h.IsListIter it a i from st).at e
  | false => exact (show h.IsTupleIter it a i from st).at e
theorem IsSqIter.obj (st : IsSqIter h k it a i) : ∃ o, h.get? it = some o ∧ ∀ v, o.data ≠ .cell v := by
  cases k with
  | true => obtain ⟨o, e, _, d⟩ := (show h.IsListIter it a i from st); exact ⟨o, e, fun v q => by rw [d] at q; cases q⟩
  | false => obtain ⟨o, e, _, d⟩ := (show h.IsTupleIter it a i from st); exact ⟨o, e, fun v q => by rw [d] at q; cases q⟩
theorem draws_sq {prog : Program} {w : World} {A : Around} (hh : A.handled = none) (it l : Addr) (hne : l ≠ it) (items : Array Value) :
    Draws prog w A it [it, l] items.size (fun i v => items[i]? = some v) (fun i h => IsSqIter h k it l i ∧ IsSq h k l items) := by
  cases k with
  | true => exact Draws.list hh it l hne items
  | false => exact Draws.tuple hh it l hne items
theorem IsSq.lt {its : Array Value} (hq : IsSq h k a its) : a < h.objs.size := by
  cases k with
  | true => obtain ⟨o, e, _⟩ := (show h.IsList a its from hq); exact Heap.lt_size e
  | false => obtain ⟨o, e, _⟩ := (show h.IsTuple a its from hq); exact Heap.lt_size e
/-- iter(v) makes this -/
theorem begins_sq (k : Bool) (a : Addr) : ∃ o, (∀ (its : Array Value), Begins (.ref a) o (fun h => IsSq h k a its)) ∧ ∀ (h : Heap) (it : Addr), h.get? it = some o → IsSqIter h k it a 0 := by
  cases k with
  | true => exact ⟨_, fun its => begins_list a its, fun h it e => ⟨_, e, rfl, rfl⟩⟩
  | false => exact ⟨_, fun its => begins_tuple a its, fun h it e => ⟨_, e, rfl, rfl⟩⟩
end
def ItzB (K : PySem.W.Frag) (k1 k2 : Bool) (a b : Addr) : It :=
  ⟨fun i H => ∃ (xs ys : List V) (x y : V), SqB K H k1 a xs ∧ SqB K H k2 b ys ∧ xs[i]? = some x ∧ ys[i]? = some y,
    fun i H v H' => ∃ T x y, v = .ref T ∧ H T = none ∧ H' = upd H T (.tup [x, y]) ∧ (∀ xs, SqB K H k1 a xs → xs[i]? = some x) ∧ ∀ ys, SqB K H k2 b ys → ys[i]? = some y,
    fun i H => ∃ xs ys : List V, SqB K H k1 a xs ∧ SqB K H k2 b ys ∧ i = min xs.length ys.length⟩
theorem turn_zipB {P : Program} {w : World} {K : PySem.W.Frag} {elts : List Expr} {kk : Nat} {tpos : Pos} {k1 k2 : Bool} {a b : Addr} {N : Nat} (ha : a < N) (hb : b < N) :
    Turn P w K (.Tuple elts kk tpos) (ItzB K k1 k2 a b) [N + 4, N + 2, N + 3, N, N + 1] (N + 4) (fun i h => IsZip h (N + 4) (N + 2) (N + 3) .none ∧ IsTupOf2 h (N + 2) (.ref N) (.ref (N + 1)) ∧ (∃ x y, IsTupOf2 h (N + 3) x y) ∧ IsSqIter h k1 N a i ∧ IsSqIter h k2 (N + 1) b i) where
  mem := by simp
  obj := fun i h st c hc => by
    obtain ⟨hz, hTI, ⟨x, y, hTO⟩, h1, h2⟩ := st
    have e' : c = N + 4 ∨ c = N + 2 ∨ c = N + 3 ∨ c = N ∨ c = N + 1 := by simpa using hc
    rcases e' with q | q | q | q | q
    · rw [q]; exact ⟨_, hz, fun v q => nomatch q⟩
    · rw [q]; exact ⟨_, hTI, fun v q => nomatch q⟩
    · rw [q]; exact ⟨_, hTO, fun v q => nomatch q⟩
    · rw [q]; exact h1.obj
    · rw [q]; exact h2.obj
  keep := fun i h h' st k => by
    obtain ⟨hz, hTI, ⟨x, y, hTO⟩, h1, h2⟩ := st
    exact ⟨k _ (by simp) _ hz, k _ (by simp) _ hTI, ⟨x, y, k _ (by simp) _ hTO⟩, h1.at fun o q => k _ (by simp) o q, h2.at fun o q => k _ (by simp) o q⟩
  item := by
    intro X hP hw hK hc i pins s σ H E I hf st hg
    subst hP hw hK
    obtain ⟨hz, hTI, hTO, h1, h2⟩ := st
    obtain ⟨xs, ys, x, y, hqx, hqy, hx, hy⟩ := hg
    obtain ⟨its, rv, p1⟩ := Inv.sqB I hqx
    obtain ⟨its2, rv2, p2⟩ := Inv.sqB I hqy
    have hh := I.ok.hd hc
    have S : ZipSep2 (N + 4) (N + 2) (N + 3) N (N + 1) [N, a] [N + 1, b] := zip_sep2 (fun c hc => by simp at hc; rw [hc]; exact ha) (fun c hc => by simp at hc; rw [hc]; exact hb)
    have W := GoesN.zip2 (prog := X.prog) (w := X.w) (A := X.A) (elts := elts) (x1 := kk) (pos := tpos) S (draws_sq (k := k1) (A := X.A.in1) hh N a (Nat.ne_of_lt ha) its.toArray) (draws_sq (k := k2) (A := X.A.in1) hh (N + 1) b (Nat.ne_of_lt (Nat.lt_succ_of_lt hb)) its2.toArray)
    have li : i < min its.toArray.size its2.toArray.size := by
      have e1 := (List.getElem?_eq_some_iff.mp hx).1
      have e2 := (List.getElem?_eq_some_iff.mp hy).1
      have l1 := rv.length
      have l2 := rv2.length
      simp only [List.size_toArray]; omega
    refine W.goes i s _ E li ⟨hz, hTI, hTO, ⟨h1, p1⟩, h2, p2⟩ fun v h' tk ⟨T, u, u2, ev, hT, hu, hu2, o, ho, hoc, n, hod⟩ ⟨z1, z2, z3, ⟨z4, _⟩, z5, _⟩ hk _ => ?_
    subst ev
    obtain ⟨u', hu', ru⟩ := rv.get hx
    obtain ⟨u2', hu2', ru2⟩ := rv2.get hy
    have eu : u' = u := Option.some.inj (hu'.symm.trans (by simpa using hu))
    have eu2 : u2' = u2 := Option.some.inj (hu2'.symm.trans (by simpa using hu2))
    subst eu eu2
    have new : ObjOk X.prog X.w (upd H T (.tup [x, y])) h' T (.tup [x, y]) := ⟨by show 2 ≤ sizeLine; decide, [u', u2'], .cons ru (.cons ru2 .nil), o, ho, hoc, n, by simpa using hod⟩
    have sub : ∀ c, c ∈ [N + 4, N + 3, N, N + 1] → c ∈ [N + 4, N + 2, N + 3, N, N + 1] := fun c hc => by
      simp only [List.mem_cons, List.not_mem_nil, or_false] at hc ⊢
      rcases hc with q | q | q | q <;> simp [q]
    have I1 : Inv X pins σ (upd H T (.tup [x, y])) { s with heap := h', toks := tk } :=
      I.turnedNew (ch := [N + 4, N + 2, N + 3, N, N + 1]) (fun c o hb q => hk c o (fun q' => hb (sub c q')) q) hf hT new
    refine ⟨.ref T, _, I1, rfl, ⟨T, x, y, rfl, I.hok.fresh hT, rfl, fun l hl => by rw [Inv.sqB_inj I hl hqx]; exact hx, fun l hl => by rw [Inv.sqB_inj I hl hqy]; exact hy⟩, ⟨z1, z2, z3, z4, z5⟩, fun c hcm => ?_⟩
    have hlt : c < s.heap.objs.size := by
      have e' : c = N + 4 ∨ c = N + 2 ∨ c = N + 3 ∨ c = N ∨ c = N + 1 := by simpa using hcm
      rcases e' with q | q | q | q | q
      · rw [q]; exact Heap.lt_size hz
      · rw [q]; exact Heap.lt_size hTI
      · rw [q]; obtain ⟨_, _, z⟩ := hTO; exact Heap.lt_size z
      · rw [q]; obtain ⟨_, z, _⟩ := h1.obj; exact Heap.lt_size z
      · rw [q]; obtain ⟨_, z, _⟩ := h2.obj; exact Heap.lt_size z
    rw [upd_ne (Nat.ne_of_lt (Nat.lt_of_lt_of_le hlt hT))]
    exact (hf c hcm).1
  done := by
    intro X hP hw hK hc i pins s σ H E I hf st hg
    subst hP hw hK
    obtain ⟨hz, hTI, hTO, h1, h2⟩ := st
    obtain ⟨xs, ys, hqx, hqy, hend⟩ := hg
    obtain ⟨its, rv, p1⟩ := Inv.sqB I hqx
    obtain ⟨its2, rv2, p2⟩ := Inv.sqB I hqy
    have hh := I.ok.hd hc
    have S : ZipSep2 (N + 4) (N + 2) (N + 3) N (N + 1) [N, a] [N + 1, b] := zip_sep2 (fun c hc => by simp at hc; rw [hc]; exact ha) (fun c hc => by simp at hc; rw [hc]; exact hb)
    have W := GoesN.zip2 (prog := X.prog) (w := X.w) (A := X.A) (elts := elts) (x1 := kk) (pos := tpos) S (draws_sq (k := k1) (A := X.A.in1) hh N a (Nat.ne_of_lt ha) its.toArray) (draws_sq (k := k2) (A := X.A.in1) hh (N + 1) b (Nat.ne_of_lt (Nat.lt_succ_of_lt hb)) its2.toArray)
    have e : i = min its.toArray.size its2.toArray.size := by
      have l1 := rv.length
      have l2 := rv2.length
      simp only [List.size_toArray]; omega
    subst e
    refine W.stops s _ E ⟨hz, hTI, hTO, ⟨h1, p1⟩, h2, p2⟩ fun h' tk hk _ => ?_
    exact I.turnedL (ch := [N + 4, N + 2, N + 3, N, N + 1]) (fun c o hb q => hk c o (fun q' => hb (by
      simp only [List.mem_cons, List.not_mem_nil, or_false] at q' ⊢
      rcases q' with q | q | q | q <;> simp [q])) q) hf
  self := fun A i s Q E st h => wpAny_pyIter_zip st.1 h
/-- a list or a tuple, by data -/
inductive SqD : Bool → PyData → List PyData → Prop
  | lst {ds : List PyData} : SqD true (.list ds) ds
  | tup {ds : List PyData} : SqD false (.tuple ds) ds
theorem SqD.at {k : Bool} {d : PyData} {ds : List PyData} {G : Hp} {K : PySem.W.Frag} {v : V} (kd : SqD k d ds) (rv : VOk G v (D d)) : ∃ p xs, v = .ref p ∧ DtAll G xs ds ∧ ∀ H, Same G H → SqB K H k p xs := by
  cases kd with
  | lst => obtain ⟨p, xs, rfl, h1, h2⟩ := dt_lst rv; exact ⟨p, xs, rfl, h2, fun H g => .of (g _ _ h1)⟩
  | tup => obtain ⟨p, xs, rfl, h1, h2⟩ := dt_tup rv; exact ⟨p, xs, rfl, h2, fun H g => .of (g _ _ h1)⟩
def zipD (xs ys : List PyData) : List PyData := (xs.zip ys).map fun p => .tuple [p.1, p.2]
section
variable {X : Cx} {e a b c tg : Expr} {δ δ1 δ2 δ3 δ' : List Sl} {pos p : Pos} {items : List PyData}
theorem pid_zip {d1 d2 : PyData} {xs ys : List PyData} {k1 k2 : Bool} {elts : List Expr} {kk : Nat} {tpos : Pos} (hm : X.mg "zip" = none) (ha : PED X δ a (D d1) δ1) (hb : PED X δ1 b (D d2) δ2) (q1 : SqD k1 d1 xs) (q2 : SqD k2 d2 ys) (hg : Gl X "zip" := by rfl)
    (hs : starEach [a, b] X.env = (false, eval a X.env) :: starEach [b] X.env := by rfl) (hs2 : starEach [b] X.env = (false, eval b X.env) :: starEach [] X.env := by rfl) :
    PID X δ (.Tuple elts kk tpos) (.Call (.Name "zip" p) [a, b] [] pos) (zipD xs ys) δ2 := by
  refine ⟨fun pins s σ H R I h => ?_⟩
  refine PyProof.Rows.Call_ (ld_blt I hg hm PyProof.Rows.boot_zip (PyProof.Rows.callWith_type1 (thn ((pad_cons ha (pad_cons hb pad_nil hs2) hs).run pos pins s σ H (fun vs H1 => ∃ G0 H0 G G1, StOk X.prog X.w G0 H0 δ σ G H ∧ Same G G1 ∧ StOk X.prog X.w G0 H0 δ2 σ G1 H1 ∧ VsOk G1 vs [D d1, D d2] ∧
      ∀ J G' H', Same G G' → StOk X.prog X.w G0 H0 δ2 σ G' H' → ItOk J (zipD xs ys) G' → R J H') I (by
        obtain ⟨G0, H0, G, S, q⟩ := h
        exact ⟨G0, H0, G, S, fun vs G1 H1 g1 S1 rv => ⟨G0, H0, G, G1, S, g1, S1, rv, q⟩⟩)) fun us s1 ⟨vs, H1, I1, r1, z⟩ => ?_) hs (by rw [hs2]; rfl)))
  obtain ⟨G0, H0, G, G1, S, g1, S1, rv, q⟩ := z
  obtain ⟨v, u, rfl, rv1, rv2⟩ := vsok2 rv
  obtain ⟨a', us1, rfl, da, sa⟩ := q1.at (K := X.K) rv1
  obtain ⟨b', us2, rfl, db, sb⟩ := q2.at (K := X.K) rv2
  obtain ⟨w1, w2, rfl, e1, e2⟩ := vals2 r1
  cases e1
  cases e2
  obtain ⟨its, r3, p1⟩ := Inv.sqB I1 (sa H1 S1.gh)
  obtain ⟨its2, r4, p2⟩ := Inv.sqB I1 (sb H1 S1.gh)
  obtain ⟨o1, B1, z1⟩ := begins_sq k1 a'
  obtain ⟨o2, B2, z2⟩ := begins_sq k2 b'
  refine zip_begins2 (B1 its.toArray) (B2 its2.toArray) p1 p2 fun h' hz hTI hTO h1 h2 hsz hk => wpAny_pyIter_zip hz ?_
  have I2 : Inv X pins σ H1 { s1 with heap := h' } := I1.kept (t' := s1.toks) hk
  refine ⟨s1.heap.objs.size + 4, [s1.heap.objs.size + 4, s1.heap.objs.size + 2, s1.heap.objs.size + 3, s1.heap.objs.size, s1.heap.objs.size + 1], _, _, H1, rfl, I2, turn_zipB p1.lt p2.lt, ⟨hz, hTI, ⟨_, _, hTO⟩, z1 _ _ h1, z2 _ _ h2⟩, fun c hcm => ?_, q _ G1 H1 g1 S1 ?_⟩
  · have e' : c = s1.heap.objs.size + 4 ∨ c = s1.heap.objs.size + 2 ∨ c = s1.heap.objs.size + 3 ∨ c = s1.heap.objs.size ∨ c = s1.heap.objs.size + 1 := by simpa using hcm
    have hle : s1.heap.objs.size ≤ c := by
      rcases e' with z | z | z | z | z
      · rw [z]; exact Nat.le_add_right _ _
      · rw [z]; exact Nat.le_add_right _ _
      · rw [z]; exact Nat.le_add_right _ _
      · rw [z]; exact Nat.le_refl _
      · rw [z]; exact Nat.le_add_right _ _
    exact I1.fpOk hle (I1.hok.fresh hle)
  · have hl : (zipD xs ys).length = min us1.length us2.length := by unfold zipD; rw [List.length_map, List.length_zip, da.length, db.length]
    refine ⟨fun i d H hd g => ?_, fun i d H x H' hd g y => ?_, fun H g => ⟨us1, us2, sa H g, sb H g, hl⟩⟩
    · have hi := (List.getElem?_eq_some_iff.mp hd).1
      rw [hl] at hi
      have i1 : i < us1.length := by omega
      have i2 : i < us2.length := by omega
      exact ⟨us1, us2, us1[i], us2[i], sa H g, sb H g, List.getElem?_eq_getElem i1, List.getElem?_eq_getElem i2⟩
    · obtain ⟨T, x', y', rfl, hT, rfl, f1, f2⟩ := y
      obtain ⟨d1', e1, e2⟩ := da.get' (f1 _ (sa H g))
      obtain ⟨d2', e3, e4⟩ := db.get' (f2 _ (sb H g))
      have hd' : (zipD xs ys)[i]? = some (.tuple [d1', d2']) := by
        unfold zipD
        rw [List.getElem?_map, (List.getElem?_zip_eq_some (z := (d1', d2'))).mpr ⟨e1, e3⟩]; rfl
      rw [hd'] at hd; cases hd
      exact .inr ⟨T, _, _, rfl, hT, rfl, rfl, .cons e2 (.cons e4 .nil)⟩
end
end Ct

-- DL6
set_option Elab.async false
set_option linter.all false
set_option maxRecDepth 100000
set_option maxHeartbeats 1000000
/-! DL6: comprehensions. -/
namespace Ct
open PySem PySem.Spec L2

/-! ### an object apart -/
section
variable {P : Program} {w : World} {G G' G1 H H' H1 G0 H0 : Hp} {δ δ' : List Sl} {σ : L2.St} {A : Addr} {o o' : HO}
/-- A is none of ours -/
structure Off (δ : List Sl) (σ : L2.St) (G H0 : Hp) (A : Addr) : Prop where
  g : G A = none
  h : H0 A = none
  own : ∀ (i : Nat) (s : Sl), δ[i]? = some s → ownAt s (σ[i]?.join) ≠ some A
theorem StOk.other (S : StOk P w G0 H0 δ σ G H) (f : Off δ σ G H0 A) : StOk P w G0 H0 δ σ G (upd H A o) :=
  ⟨S.gg, fun b u e => by rw [upd_ne (ne_of_none e f.h)]; exact S.hh b u e, fun b u e => by rw [upd_ne (ne_of_none e f.g)]; exact S.gh b u e, S.sep, S.len,
    fun i s e => (S.sl i s e).up (same_refl _) fun q u hq hu => by rw [upd_ne fun z => f.own i s e (by rw [hq, z])]; exact hu, S.own, S.dis⟩
theorem StOk.addB (S : StOk P w G0 H0 δ σ G H) (f : Off δ σ G H0 A) (h : H A = some o) : StOk P w G0 (upd H0 A o) δ σ G H :=
  ⟨S.gg, fun b u e => by
    by_cases hb : b = A
    · subst hb; rw [upd_same] at e; cases e; exact h
    · rw [upd_ne hb] at e; exact S.hh b u e, S.gh, fun b u e n => by
    by_cases hb : b = A
    · subst hb; exact f.g
    · rw [upd_ne hb] at e; exact S.sep b u e n, S.len, S.sl, fun i s p e z => by
    obtain ⟨n0, n1⟩ := S.own i s p e z
    exact ⟨by rw [upd_ne fun q => f.own i s e (by rw [z, q])]; exact n0, n1⟩, S.dis⟩
theorem StOk.delB (S : StOk P w G0 (upd H0 A o) δ σ G H) (n0 : H0 A = none) (n1 : G0 A = none) : StOk P w G0 H0 δ σ G H ∧ Off δ σ G H0 A ∧ H A = some o := by
  refine ⟨⟨S.gg, fun b u e => S.hh b u (by rw [upd_ne (ne_of_none e n0)]; exact e), S.gh, fun b u e n => S.sep b u (by rw [upd_ne (ne_of_none e n0)]; exact e) n, S.len, S.sl, fun i s p e z => ?_, S.dis⟩, ⟨S.sep A o upd_same n1, n0, fun i s e z => ?_⟩, S.hh A o upd_same⟩
  · obtain ⟨m0, m1⟩ := S.own i s p e z
    refine ⟨?_, m1⟩
    by_cases hb : p = A
    · subst hb; exact n0
    · rw [upd_ne hb] at m0; exact m0
  · obtain ⟨m0, _⟩ := S.own i s A e z
    rw [upd_same] at m0; cases m0
theorem StOk.offNew (S : StOk P w G0 H0 δ σ G H) (h : H A = none) : Off δ σ G H0 A := ⟨same_none S.gh h, same_none S.hh h, fun i s e z => by
  obtain ⟨u, hu⟩ := (S.sl i s e).there z
  rw [h] at hu; cases hu⟩
/-- a new list that is data from then on -/
theorem StOk.offDat {xs : List V} {ds : List PyData} (S : StOk P w G0 H0 δ σ G H) (f : Off δ σ G H0 A) (h : H A = some (.lst xs)) (ha : DtAll G xs ds) : Same G (upd G A (.lst xs)) ∧ StOk P w G0 H0 δ σ (upd G A (.lst xs)) H ∧ Dt (upd G A (.lst xs)) (.ref A) (.list ds) := by
  have g : Same G (upd G A (.lst xs)) := same_new f.g
  refine ⟨g, ⟨same_trans S.gg g, S.hh, fun b u e => ?_, fun b u e n => ?_, S.len, fun i s e => (S.sl i s e).up g fun _ _ _ z => z, fun i s p e z => ?_, S.dis⟩, Dt.lst upd_same (DtAll.up ha g)⟩
  · by_cases hb : b = A
    · subst hb; rw [upd_same] at e; cases e; exact h
    · rw [upd_ne hb] at e; exact S.gh b u e
  · rw [upd_ne (ne_of_none e f.h)]; exact S.sep b u e n
  · obtain ⟨m0, m1⟩ := S.own i s p e z
    exact ⟨m0, by rw [upd_ne fun q => f.own i s e (by rw [z, q])]; exact m1⟩
/-! ### slots forgotten -/
def wipeD (δ : List Sl) (vs : List Nat) : List Sl := vs.foldr (fun v d => d.set v .any) δ
theorem wipeD_length (vs : List Nat) : (wipeD δ vs).length = δ.length := by
  induction vs with
  | nil => rfl
  | cons v vs ih => show ((wipeD δ vs).set v .any).length = _; rw [List.length_set, ih]
theorem wipeD_get {vs : List Nat} {i : Nat} {s : Sl} (h : (wipeD δ vs)[i]? = some s) : s = .any ∨ (i ∉ vs ∧ δ[i]? = some s) := by
  induction vs with
  | nil => exact .inr ⟨by simp, h⟩
  | cons v vs ih =>
    have h' : ((wipeD δ vs).set v .any)[i]? = some s := h
    by_cases e : v = i
    · subst e
      by_cases hl : v < (wipeD δ vs).length
      · rw [List.getElem?_set_self hl] at h'; cases h'; exact .inl rfl
      · rw [List.getElem?_eq_none (by rw [List.length_set]; omega)] at h'; cases h'
    · rw [List.getElem?_set_ne e] at h'
      rcases ih h' with q | ⟨q1, q2⟩
      · exact .inl q
      · exact .inr ⟨by simp only [List.mem_cons, not_or]; exact ⟨fun z => e z.symm, q1⟩, q2⟩
theorem wipe_get {vs : List Nat} {i : Nat} (h : i ∉ vs) : (wipe σ vs)[i]? = σ[i]? := by
  induction vs with
  | nil => rfl
  | cons v vs ih =>
    simp only [List.mem_cons, not_or] at h
    show ((wipe σ vs).set v none)[i]? = _
    rw [List.getElem?_set_ne (Ne.symm h.1)]; exact ih h.2
theorem wipeD_twice {vs : List Nat} : wipeD (wipeD δ vs) vs = wipeD δ vs := by
  apply List.ext_getElem?
  intro i
  have key : ∀ (δ : List Sl), (wipeD δ vs)[i]? = (if i ∈ vs then (if i < δ.length then some .any else none) else δ[i]?) := by
    intro δ
    induction vs with
    | nil => simp [wipeD]
    | cons v vs ih =>
      show ((wipeD δ vs).set v .any)[i]? = _
      by_cases e : v = i
      · subst e
        rw [if_pos List.mem_cons_self]
        by_cases hl : v < δ.length
        · rw [List.getElem?_set_self (by rw [wipeD_length]; exact hl), if_pos hl]
        · rw [List.getElem?_eq_none (by rw [List.length_set, wipeD_length]; omega), if_neg hl]
      · rw [List.getElem?_set_ne e, ih]
        by_cases hm : i ∈ vs
        · rw [if_pos hm, if_pos (List.mem_cons_of_mem _ hm)]
        · rw [if_neg hm, if_neg (by simp only [List.mem_cons, not_or]; exact ⟨fun z => e z.symm, hm⟩)]
  rw [key, key, wipeD_length]
  by_cases hm : i ∈ vs
  · simp [hm]
  · simp [hm]
/-- what is known of the other slots passes between two states that agree there -/
theorem StOk.reslot {σ' : L2.St} {vs : List Nat} (S : StOk P w G0 H0 δ σ G H) (hw : wipe σ' vs = wipe σ vs) : StOk P w G0 H0 (wipeD δ vs) σ' G H := by
  have hg : ∀ i, i ∉ vs → σ'[i]? = σ[i]? := fun i hi => by rw [← wipe_get (σ := σ') hi, hw, wipe_get hi]
  refine ⟨S.gg, S.hh, S.gh, S.sep, ?_, fun i s e => ?_, fun i s p e z => ?_, fun i j s t p hij e1 e2 z => ?_⟩
  · rw [wipeD_length]
    have := congrArg List.length hw
    rw [wipe_length, wipe_length] at this
    rw [this]; exact S.len
  · rcases wipeD_get e with rfl | ⟨hi, e'⟩
    · cases σ'[i]?.join <;> trivial
    · rw [hg i hi]; exact S.sl i s e'
  · rcases wipeD_get e with rfl | ⟨hi, e'⟩
    · cases z
    · rw [hg i hi] at z; exact S.own i s p e' z
  · rcases wipeD_get e1 with rfl | ⟨hi, e1'⟩
    · cases z
    · rw [hg i hi] at z
      rcases wipeD_get e2 with rfl | ⟨hj, e2'⟩
      · exact fun q => by cases q
      · rw [hg j hj]; exact S.dis i j s t p hij e1' e2' z
theorem wipe_wipe (vs : List Nat) : wipe (wipe σ vs) vs = wipe σ vs := by
  apply List.ext_getElem?
  intro i
  by_cases hi : i ∈ vs
  · have none_ : ∀ (τ : L2.St), (wipe τ vs)[i]? = (if i < τ.length then some none else none) := by
      intro τ
      induction vs with
      | nil => simp at hi
      | cons v vs ih =>
        show ((wipe τ vs).set v none)[i]? = _
        by_cases e : v = i
        · subst e
          by_cases hl : v < τ.length
          · rw [List.getElem?_set_self (by rw [wipe_length]; exact hl), if_pos hl]
          · rw [List.getElem?_eq_none (by rw [List.length_set, wipe_length]; omega), if_neg hl]
        · rw [List.getElem?_set_ne e]
          exact ih (by simp only [List.mem_cons] at hi; rcases hi with q | q; exact absurd q.symm e; exact q)
    rw [none_, none_, wipe_length]
  · rw [wipe_get hi, wipe_get hi]
theorem wipe_set {vs : List Nat} {i : Nat} {v : Option V} (h : i ∈ vs) : wipe (σ.set i v) vs = wipe σ vs := by
  apply List.ext_getElem?
  intro j
  have none_ : ∀ (τ : L2.St), j ∈ vs → (wipe τ vs)[j]? = (if j < τ.length then some none else none) := by
    intro τ hj
    clear h
    induction vs with
    | nil => simp at hj
    | cons v vs ih =>
      show ((wipe τ vs).set v none)[j]? = _
      by_cases e : v = j
      · subst e
        by_cases hl : v < τ.length
        · rw [List.getElem?_set_self (by rw [wipe_length]; exact hl), if_pos hl]
        · rw [List.getElem?_eq_none (by rw [List.length_set, wipe_length]; omega), if_neg hl]
      · rw [List.getElem?_set_ne e]
        exact ih (by simp only [List.mem_cons] at hj; rcases hj with q | q; exact absurd q.symm e; exact q)
  by_cases hj : j ∈ vs
  · rw [none_ _ hj, none_ _ hj, List.length_set]
  · rw [wipe_get hj, wipe_get hj, List.getElem?_set_ne fun z => hj (by rw [← z]; exact h)]
end

/-! ### the block's parts -/
/-- a comprehension's block -/
abbrev Bk (X : Cx) (scope : Scope) (s : Shared) (H : Hp) (C : Addr) (cl : List (Str × Addr)) (fp : List Addr) : Cx := X.blk s H scope (compEnvC scope cl C X.env) fp
/-- a target that stores into the slots vs alone -/
def tDW (P : Program) (w : World) (vs : List Nat) (δ : List Sl) (d : PyData) (δ' : List Sl) : TG := fun v σ H Q => ∃ G0 H0 G, StOk P w G0 H0 δ σ G H ∧ Dt G v d ∧ ∀ σ' G' H', Same G G' → StOk P w G0 H0 δ' σ' G' H' → wipe σ' vs = wipe σ vs → Q σ' H'
def tDWs (P : Program) (w : World) (vs : List Nat) (δ : List Sl) (ds : List PyData) (δ' : List Sl) : TGs := fun us σ H Q => ∃ G0 H0 G, StOk P w G0 H0 δ σ G H ∧ DtAll G us ds ∧ ∀ σ' G' H', Same G G' → StOk P w G0 H0 δ' σ' G' H' → wipe σ' vs = wipe σ vs → Q σ' H'
/-- a comprehension's tests -/
abbrev PTsD (X : Cx) (δ : List Sl) (ifs : List Expr) (k : Bool) (δ' : List Sl) : Prop := PTs X ifs (tDT X.prog X.w δ k δ')
section
variable {X : Cx} {e tg : Expr} {δ δ1 δ2 δ' : List Sl} {pos : Pos} {d : PyData} {ds : List PyData} {tgs : List Expr} {vs : List Nat} {k : Bool} {ifs : List Expr}
theorem ptsd_nil : PTsD X δ [] true δ := ⟨fun pins s σ H Q I ⟨G0, H0, G, S, q⟩ => pts_nil.run pins s σ H Q I (q G H (same_refl _) S)⟩
theorem ptsd_one (h : PTD X δ e k δ1) : PTsD X δ [e] k δ1 := pts_one h
theorem pgw_name (i : Nat) {x : Str} (hN : X.N.Nodup) (hv : i ∈ vs := by decide) (hi : X.N[i]? = some x := by rfl) (hx : Loc X.env.scope x := by first | exact Or.inl rfl | exact Or.inr rfl) (hf : X.fn x = true ∨ X.env.scope.names.lookup x = some .local := by first | exact .inl rfl | exact .inr rfl | assumption) :
    PG X (.Name x pos) (tDW X.prog X.w vs δ d (δ.set i (D d))) :=
  (pg_name hN hi hx hf).imp fun v σ H Q ⟨G0, H0, G, S, rv, q⟩ => q _ G H (same_refl _) (S.store (s := D d) rv) (wipe_set hv)
theorem pgws_nil : PGs X [] (tDWs X.prog X.w vs δ [] δ) := pgs_nil.imp fun us σ H Q ⟨G0, H0, G, S, rv, q⟩ => ⟨by cases rv; rfl, q σ G H (same_refl _) S rfl⟩
theorem pgws_cons (h : PG X tg (tDW X.prog X.w vs δ d δ1)) (hr : PGs X tgs (tDWs X.prog X.w vs δ1 ds δ2)) (hs : (assignEach (tg :: tgs) X.env).map (·.2) = assign tg X.env :: (assignEach tgs X.env).map (·.2) := by rfl) : PGs X (tg :: tgs) (tDWs X.prog X.w vs δ (d :: ds) δ2) :=
  (pgs_cons h hr hs).imp fun us σ H Q ⟨G0, H0, G, S, rv, q⟩ => by
    cases rv with
    | cons r1 r2 => exact ⟨_, _, rfl, G0, H0, G, S, r1, fun σ1 G1 H1 g1 S1 e1 => ⟨G0, H0, G1, S1, DtAll.up r2 g1, fun σ2 G2 H2 g2 S2 e2 => q σ2 G2 H2 (same_trans g1 g2) S2 (e2.trans e1)⟩⟩
theorem pgw_tup {k : Nat} (hc : X.calm = true) (h : PGs X tgs (tDWs X.prog X.w vs δ ds δ1)) (hn : (assignEach tgs X.env).length = ds.length := by rfl) (hst : (assignEach tgs X.env).findIdx? (·.1) = none := by rfl) : PG X (.Tuple tgs k pos) (tDW X.prog X.w vs δ (.tuple ds) δ1) :=
  (pg_tup hc h hn hst).imp fun v σ H Q ⟨G0, H0, G, S, rv, q⟩ => by
    obtain ⟨p, xs, rfl, h1, h2⟩ := dt_tup rv
    exact ⟨p, xs, rfl, .of (S.gh _ _ h1), h2.length, G0, H0, G, S, h2, q⟩
/-- whatever is shown of the parts in every block -/
def anyBE (X : Cx) (scope : Scope) (e : Expr) : TE := fun σ H Q => ∃ t, (∀ s H C cl fp, PE (Bk X scope s H C cl fp) e t) ∧ t σ H Q
def anyBG (X : Cx) (scope : Scope) (e : Expr) : TG := fun v σ H Q => ∃ t, (∀ s H C cl fp, PG (Bk X scope s H C cl fp) e t) ∧ t v σ H Q
def anyBT (X : Cx) (scope : Scope) (ifs : List Expr) : TT := fun σ H Q => ∃ t, (∀ s H C cl fp, PTs (Bk X scope s H C cl fp) ifs t) ∧ t σ H Q
variable {elt iter : Expr} {scope : Scope} {own : List (Str × Nat)} {items : List PyData}
/-- what one turn of a comprehension shows: from δa with the results acc, by the item d, to δ' and acc' -/
structure LcTurn (X : Cx) (scope : Scope) (vs : List Nat) (tg elt : Expr) (ifs : List Expr) (d : PyData) (δa : List Sl) (acc : List PyData) (δ' : List Sl) (acc' : List PyData) : Prop where
  ex : ∃ δb k δc, (∀ s H C cl fp, PG (Bk X scope s H C cl fp) tg (tDW X.prog X.w vs δa d δb)) ∧ (∀ s H C cl fp, PTsD (Bk X scope s H C cl fp) δb ifs k δc) ∧
    ((k = true ∧ ∃ y δd, (∀ s H C cl fp, PED (Bk X scope s H C cl fp) δc elt (D y) δd) ∧ acc' = acc ++ [y] ∧ δ' = wipeD δd vs) ∨ (k = false ∧ acc' = acc ∧ δ' = wipeD δc vs))
theorem lc_read {σ : L2.St} {H : Hp} {Q : VK} {vs : List Nat} (I : Nat → List Sl → List PyData → Prop) {res : List PyData} {δe : List Sl} (h0 : I 0 (wipeD δ1 vs) [])
    (turn : ∀ (i : Nat) (d : PyData) (δa : List Sl) (acc : List PyData), items[i]? = some d → I i δa acc → ∃ δ' acc', LcTurn X scope vs tg elt ifs d δa acc δ' acc' ∧ I (i + 1) δ' acc')
    (done : ∀ (δa : List Sl) (acc : List PyData), I items.length δa acc → acc = res ∧ wipeD δa vs = δe) (hz : items.length < sizeLine)
    (h : tD X.prog X.w δ (D (.list res)) δe σ H Q) : tLc (tDI X.prog X.w δ items δ1) (anyBG X scope tg) (anyBT X scope ifs) (anyBE X scope elt) vs σ H Q := by
  obtain ⟨G0, H0, G, S, q⟩ := h
  refine ⟨G0, H0, G, S, fun J G1 H1 g1 S1 hJ A hA => ?_⟩
  have fA := S1.offNew hA
  have n0 : G0 A = none := same_none S1.gg fA.g
  -- the word
  refine ⟨fun i m H => m = items.length - i ∧ i ≤ items.length ∧ ∃ δa acc accV G2, I i δa acc ∧ Same G1 G2 ∧ StOk X.prog X.w G0 H0 δa (wipe σ vs) G2 H ∧ Off δa (wipe σ vs) G2 H0 A ∧ H A = some (.lst accV) ∧ DtAll G2 accV acc ∧ accV.length ≤ i, ⟨items.length, by omega, Nat.zero_le _, wipeD δ1 vs, [], [], G1, h0, same_refl _, ?_⟩, ?_⟩
  · have S2 : StOk X.prog X.w G0 H0 (wipeD δ1 vs) (wipe σ vs) G1 H1 := S1.reslot (wipe_wipe vs)
    have f2 := S2.offNew hA
    exact ⟨S2.other f2, f2, upd_same, .nil, Nat.le_refl _⟩
  · rintro i m H ⟨rfl, hil, δa, acc, accV, G2, hI, g2, S2, f2, hH, ha, hacc⟩
    by_cases hlt : i < items.length
    · have hd : items[i]? = some items[i] := List.getElem?_eq_getElem hlt
      obtain ⟨δ', acc', ⟨δb, k, δc, hg, ht, hk⟩, hI'⟩ := turn i items[i] δa acc hd hI
      refine .inr ⟨hJ.go i _ H hd (same_trans g2 S2.gh), fun H' => ∃ accV G3, I (i + 1) δ' acc' ∧ Same G1 G3 ∧ StOk X.prog X.w G0 H0 δ' (wipe σ vs) G3 H' ∧ Off δ' (wipe σ vs) G3 H0 A ∧ H' A = some (.lst accV) ∧ DtAll G3 accV acc' ∧ accV.length ≤ i + 1,
        fun H' ⟨accV', G3, w1, w2, w3, w4, w5, w6, w7⟩ => ⟨items.length - (i + 1), by omega, rfl, hlt, δ', acc', accV', G3, w1, w2, w3, w4, w5, w6, w7⟩, fun x H' y => ?_⟩
      have S2' := S2.addB f2 hH
      obtain ⟨G3, g3, S3, r3⟩ := S2'.turn hJ g2 hd y
      refine ⟨_, hg, G0, _, G3, S3, r3, fun σ4 G4 H4 g4 S4 e4 => ?_⟩
      refine ⟨by rw [e4]; exact wipe_wipe vs, tDT X.prog X.w δb k δc, ht, G0, _, G4, S4, fun G5 H5 g5 S5 => ?_⟩
      have back : ∀ {δx : List Sl} {G6 H6 : Hp}, StOk X.prog X.w G0 (upd H0 A (.lst accV)) δx σ4 G6 H6 → StOk X.prog X.w G0 H0 (wipeD δx vs) (wipe σ vs) G6 H6 ∧ Off (wipeD δx vs) (wipe σ vs) G6 H0 A ∧ H6 A = some (.lst accV) := fun {δx G6 H6} S6 => by
        obtain ⟨S7, f7, h7⟩ := S6.delB fA.h n0
        have S8 : StOk X.prog X.w G0 H0 (wipeD δx vs) (wipe σ vs) G6 H6 := S7.reslot (by rw [e4])
        refine ⟨S8, ⟨f7.g, f7.h, fun j s es z => ?_⟩, h7⟩
        have S9 : StOk X.prog X.w G0 (upd H0 A (.lst accV)) (wipeD δx vs) (wipe σ vs) G6 H6 := S6.reslot (by rw [e4])
        have q0 := (S9.own j s A es z).1
        rw [upd_same] at q0; cases q0
      have gg : Same G1 G5 := same_trans g2 (same_trans g3 (same_trans g4 g5))
      have ha5 : DtAll G5 accV acc := DtAll.up ha (same_trans g3 (same_trans g4 g5))
      rcases hk with ⟨rfl, y', δd, he, rfl, rfl⟩ | ⟨rfl, rfl, rfl⟩
      · show if true = true then _ else _
        rw [if_pos rfl]
        refine ⟨tD X.prog X.w δc (D y') δd, he, G0, _, G5, S5, fun v G6 H6 g6 S6 rv => ?_⟩
        obtain ⟨S7, f7, h7⟩ := back S6
        refine ⟨accV, h7, by omega, accV ++ [v], G6, hI', same_trans gg g6, S7.other f7, f7, upd_same, (DtAll.up ha5 g6).append (.cons rv .nil), by rw [List.length_append]; exact Nat.succ_le_succ hacc⟩
      · obtain ⟨S7, f7, h7⟩ := back S5
        exact iteF ⟨accV, G5, hI', gg, S7, f7, h7, ha5, Nat.le_succ_of_le hacc⟩
    · have e : i = items.length := by omega
      subst e
      obtain ⟨rfl, rfl⟩ := done δa acc hI
      have S3 : StOk X.prog X.w G0 H0 (wipeD δa vs) σ G2 H := S2.reslot (wipe_wipe vs).symm
      obtain ⟨g4, S4, r4⟩ := S3.offDat ⟨f2.g, f2.h, fun j s es z => by
        rcases wipeD_get es with rfl | ⟨hi, es'⟩
        · cases z
        · exact f2.own j s es' (by rw [wipe_get hi]; exact z)⟩ hH ha
      exact .inl ⟨hJ.st H (same_trans g2 S2.gh), q _ _ H (same_trans g1 (same_trans g2 g4)) S4 r4⟩
/-- [elt for target in iter if ..] -/
theorem pd_lc {res : List PyData} {δe : List Sl} (own : List (Str × Nat)) (hc : X.calm = true) (hN : X.N.Nodup) (hi : PID X δ tg iter items δ1) (ok : BlkOk X.N X.env.scope scope own) (I : Nat → List Sl → List PyData → Prop) (h0 : I 0 (wipeD δ1 (own.map (·.2))) [])
    (turn : ∀ (i : Nat) (d : PyData) (δa : List Sl) (acc : List PyData), items[i]? = some d → I i δa acc → ∃ δ' acc', LcTurn X scope (own.map (·.2)) tg elt ifs d δa acc δ' acc' ∧ I (i + 1) δ' acc')
    (done : ∀ (δa : List Sl) (acc : List PyData), I items.length δa acc → acc = res ∧ wipeD δa (own.map (·.2)) = δe) (hz : items.length < sizeLine) (hs : ∀ x, foldedSetIterable iter X.env x = pure x := by intro _; rfl) :
    PED X δ (.ListComp elt [⟨tg, iter, ifs, 0⟩] scope pos) (D (.list res)) δe :=
  (pe_lc hc hN hi ok (fun s H C cl fp => ⟨fun pins s' σ H' v u Q I r ⟨t, h, q⟩ => (h s H C cl fp).run pins s' σ H' v u Q I r q⟩) (fun s H C cl fp => ⟨fun pins s' σ H' Q I ⟨t, h, q⟩ => (h s H C cl fp).run pins s' σ H' Q I q⟩)
    (fun s H C cl fp => ⟨fun pins s' σ H' Q I ⟨t, h, q⟩ => (h s H C cl fp).run pins s' σ H' Q I q⟩) hs).imp fun σ H Q h => lc_read I h0 turn done hz h
/-- name = [elt for ..] -/
theorem pbd_setLc {rest : List Stmt} {bs : List (List Stmt)} {o : Out} {res : List PyData} {δe : List Sl} (i : Nat) {y : Str} {py spos : Pos} (own : List (Str × Nat)) (hc : X.calm = true) (hN : X.N.Nodup) (hi : PID X δ tg iter items δ1) (ok : BlkOk X.N X.env.scope scope own) (I : Nat → List Sl → List PyData → Prop) (h0 : I 0 (wipeD δ1 (own.map (·.2))) [])
    (turn : ∀ (i : Nat) (d : PyData) (δa : List Sl) (acc : List PyData), items[i]? = some d → I i δa acc → ∃ δ' acc', LcTurn X scope (own.map (·.2)) tg elt ifs d δa acc δ' acc' ∧ I (i + 1) δ' acc')
    (done : ∀ (δa : List Sl) (acc : List PyData), I items.length δa acc → acc = res ∧ wipeD δa (own.map (·.2)) = δe) (hz : items.length < sizeLine) (hr : PBD X (δe.set i (D (.list res))) (rest :: bs) o)
    (hsw : swapsWith (.ListComp elt [⟨tg, iter, ifs, 0⟩] scope pos) (some (.Name y py)) spos.line X.env = pure true) (hy : X.N[i]? = some y := by rfl) (hyl : X.env.scope.names.lookup y = some .local := by rfl) (hs : ∀ x, foldedSetIterable iter X.env x = pure x := by intro _; rfl) :
    PBD X δ ((.Assign [.Name y py] (.ListComp elt [⟨tg, iter, ifs, 0⟩] scope pos) spos :: rest) :: bs) o :=
  (pb_cons (ps_setLc hc hN hy hyl hsw hi ok (fun s H C cl fp => ⟨fun pins s' σ H' v u Q I r ⟨t, h, q⟩ => (h s H C cl fp).run pins s' σ H' v u Q I r q⟩) (fun s H C cl fp => ⟨fun pins s' σ H' Q I ⟨t, h, q⟩ => (h s H C cl fp).run pins s' σ H' Q I q⟩)
    (fun s H C cl fp => ⟨fun pins s' σ H' Q I ⟨t, h, q⟩ => (h s H C cl fp).run pins s' σ H' Q I q⟩) hs)).imp fun E σ H ⟨G0, H0, G, S, q⟩ =>
    lc_read I h0 turn done hz ⟨G0, H0, G, S, fun v G' H' g S' rv => ⟨_, hr, G0, H0, G', S'.store rv, q.up g⟩⟩
/-- where the state stays and each turn is known by its item -/
theorem pd_lcF {res : List PyData} (own : List (Str × Nat)) (f : PyData → PyData) (t : PyData → Bool) (hc : X.calm = true) (hN : X.N.Nodup) (hi : PID X δ tg iter items δ1) (ok : BlkOk X.N X.env.scope scope own)
    (turn : ∀ d ∈ items, ∃ δb, (∀ s H C cl fp, PG (Bk X scope s H C cl fp) tg (tDW X.prog X.w (own.map (·.2)) (wipeD δ1 (own.map (·.2))) d δb)) ∧ (∀ s H C cl fp, PTsD (Bk X scope s H C cl fp) δb ifs (t d) δb) ∧
      (t d = true → ∀ s H C cl fp, PED (Bk X scope s H C cl fp) δb elt (D (f d)) δb) ∧ wipeD δb (own.map (·.2)) = wipeD δ1 (own.map (·.2)))
    (hres : (items.filter t).map f = res) (hz : items.length < sizeLine) (hs : ∀ x, foldedSetIterable iter X.env x = pure x := by intro _; rfl) :
    PED X δ (.ListComp elt [⟨tg, iter, ifs, 0⟩] scope pos) (D (.list res)) (wipeD δ1 (own.map (·.2))) := by
  have ww : wipeD (wipeD δ1 (own.map (·.2))) (own.map (·.2)) = wipeD δ1 (own.map (·.2)) := wipeD_twice
  refine pd_lc own hc hN hi ok (fun i δa acc => δa = wipeD δ1 (own.map (·.2)) ∧ acc = ((items.take i).filter t).map f) ⟨rfl, by simp⟩ (fun i d δa acc hd ⟨e1, e2⟩ => ?_) (fun δa acc ⟨e1, e2⟩ => ?_) hz hs
  · subst e1
    have hm : d ∈ items := List.mem_of_getElem? hd
    obtain ⟨δb, hg, ht, he, hw⟩ := turn d hm
    have et : items.take (i + 1) = items.take i ++ [d] := by rw [List.take_add_one, hd]; rfl
    cases hk : t d with
    | true =>
      refine ⟨_, _, ⟨δb, t d, δb, hg, ht, .inl ⟨hk, f d, δb, he hk, rfl, rfl⟩⟩, hw, ?_⟩
      rw [et, List.filter_append, List.map_append, e2]
      simp [hk]
    | false =>
      refine ⟨_, _, ⟨δb, t d, δb, hg, ht, .inr ⟨hk, rfl, rfl⟩⟩, hw, ?_⟩
      rw [et, List.filter_append, List.map_append, e2]
      simp [hk]
  · subst e1
    refine ⟨?_, ww⟩
    rw [e2, List.take_length]; exact hres
end
end Ct

-- DL7
set_option Elab.async false
set_option linter.all false
set_option maxRecDepth 100000
set_option maxHeartbeats 1000000
/-! DL7: a def keeps its promise by its body; what the module's names hold. -/
namespace Ct
open PySem PySem.Spec L2

theorem _root_.L2.Room.u100 {k : Nat} {A : Around} (r : Room k A) : A.units + 100 < cLine := by have := r.un; omega
/-- the slots at a def's start -/
def st0 (N : List Str) (ds : List Sl) : List Sl := ds ++ List.replicate (N.length - ds.length) .any
abbrev FnP (K : PySem.W.Frag) (x : Str) (st : Stmt) (f : Addr) (fd : FuncData) : Prop := FunD K x x (defArgs st) (defBody st) (defScope st) [] [] f fd
/-- a slot's value that is data, or a def -/
def plainSl : Sl → Bool
  | .dat _ => true
  | .fn _ => true
  | _ => false
theorem VOk.plain {G : Hp} {v : V} {s : Sl} (h : VOk G v s) : plainSl s = true := by
  cases s with
  | dat d => rfl
  | fn f => rfl
  | _ => exact False.elim h
theorem stok_start {P : Program} {w : World} {G H : Hp} {N : List Str} {ds : List Sl} {vs : List V} (g : Same G H) (r : VsOk G vs ds) (hl : vs.length ≤ N.length) : StOk P w G H (st0 N ds) (start N vs) G H := by
  have el : vs.length = ds.length := Paired.length r
  have at_ : ∀ (i : Nat) (s : Sl), (st0 N ds)[i]? = some s → s = .any ∨ ∃ v, (start N vs)[i]? = some (some v) ∧ VOk G v s := fun i s e => by
    unfold st0 at e
    by_cases hi : i < ds.length
    · rw [List.getElem?_append_left hi] at e
      have : ∀ {vs : List V} {ds : List Sl} {i : Nat}, VsOk G vs ds → ds[i]? = some s → ∃ v, vs[i]? = some v ∧ VOk G v s := by
        intro vs
        induction vs with
        | nil => intro ds i r e; cases r; simp at e
        | cons v vs ih =>
          intro ds i r e
          cases r with
          | cons r1 r2 =>
            cases i with
            | zero => cases e; exact ⟨v, rfl, r1⟩
            | succ i => exact ih (i := i) r2 (by simpa using e)
      obtain ⟨v, e1, e2⟩ := this r e
      refine .inr ⟨v, ?_, e2⟩
      unfold L2.start
      rw [List.getElem?_append_left (by rw [List.length_map]; omega), List.getElem?_map, e1]; rfl
    · rw [List.getElem?_append_right (by omega), List.getElem?_replicate] at e
      split at e
      · cases e; exact .inl rfl
      · cases e
  refine ⟨same_refl _, same_refl _, g, fun _ _ _ n => n, ?_, fun i s e => ?_, fun i s p e z => ?_, fun i j s t p hij e1 e2 z => ?_⟩
  · unfold st0 L2.start
    rw [List.length_append, List.length_append, List.length_replicate, List.length_replicate, List.length_map]; omega
  · rcases at_ i s e with rfl | ⟨v, e1, r1⟩
    · cases (start N vs)[i]?.join <;> trivial
    · rw [e1]
      cases s with
      | dat d => exact r1
      | fn f => exact r1
      | _ => exact False.elim r1
  · rcases at_ i s e with rfl | ⟨v, e1, r1⟩
    · cases z
    · cases s with
      | dat d => cases z
      | fn f => cases z
      | _ => exact False.elim r1
  · rcases at_ i s e1 with rfl | ⟨v, e3, r1⟩
    · cases z
    · cases s with
      | dat d => cases z
      | fn f => cases z
      | _ => exact False.elim r1
/-- what a body is run in -/
abbrev Xf (P : Program) (w : World) (K : PySem.W.Frag) (mg : Str → Option Value) (base : Heap) (N : List Str) (qual : Str) (st : Stmt) (f : Addr) (cdv : Value) (A : Around) (outer : List Env) (s : Shared) (H : Hp) (E : XK) : Cx :=
  (cxOf CX0 P w K mg base N qual (defScope st) f cdv A outer s H E).nox
/-- the end of a body that answers r -/
def Ends1 (r : PyData) (o : Out) : Prop := o = .rt r [] ∨ (r = .none ∧ ∃ δ, o = .nx δ)
section
variable {P : Program} {w : World} {K : PySem.W.Frag} {mg : Str → Option Value} {base : Heap}
theorem has_of {x name : Str} {n : Nat} {st : Stmt} {N ps : List Str} {pre : List Sl → PyData → Prop} {f : Addr} {fd : FuncData} (F : FnP K name st f fd) (hm : mg x = some (.ref f)) (S : FnScope N ps (defScope st))
    (len : ∀ ds r, pre ds r → ds.length = ps.length)
    (hb : ∀ (kV doc pm : Value) (an : Option Addr) (cdv ct : Value) (us : List Value), us.length = ps.length → bindArgs (PySem.W.fnOf name name (defArgs st) (defBody st) (defScope st) .none kV doc pm an cdv ct) ⟨us, []⟩ = pure (ps.zip us))
    (body : ∀ (cdv : Value) (A : Around) (outer : List Env) (s : Shared) (H : Hp) (E : XK) (ds : List Sl) (r : PyData), Room n (A.deeper (PyProof.Rows.envOfC name (defScope st) s.heap.objs.size f cdv)) → pre ds r →
      ∃ o, PBD (Xf P w K mg base N name st f cdv A outer s H E) (st0 N ds) [defBody st] o ∧ Ends1 r o) : Has P w K mg base (n + 1) x ps pre f := by
  refine ⟨hm, F.kp, fd, ?_, ?_⟩
  · exact F.bindsN hb
  · refine F.ok S (fun vs H Q E h => ?_) fun cdv A outer s H vs Q E hr h => ?_
    · obtain ⟨G, ds, r, hp, g, rv, q⟩ := h
      rw [Paired.length rv]; exact len ds r hp
    · obtain ⟨G, ds, r, hp, g, rv, q⟩ := h
      obtain ⟨o, hB, ho⟩ := body cdv A outer s H E ds r hr hp
      have hl : vs.length ≤ N.length := by
        rw [Paired.length rv, len ds r hp]
        have := congrArg List.length S.pre
        rw [List.length_take] at this; omega
      refine ⟨_, PSs.nox hB.pss, G, H, G, stok_start g rv hl, ?_⟩
      rcases ho with rfl | ⟨rfl, δ, rfl⟩
      · exact fun v σ G' H' g' S' r' => q v G' H' S'.leave r'
      · exact fun σ G' H' g' S' => q .non G' H' ((S'.weak Wk.nil (Nat.zero_le _)).leave) .non
end
/-- built-in names that the module leaves free -/
structure Frs (mg : Str → Option Value) : Prop where
  isi : mg "isinstance" = none
  int : mg "int" = none
  bool : mg "bool" = none
  tuple : mg "tuple" = none
  str : mg "str" = none
  list : mg "list" = none
  len : mg "len" = none
  all : mg "all" = none
  zip : mg "zip" = none
  range : mg "range" = none
  enumerate : mg "enumerate" = none
  sorted : mg "sorted" = none
  max : mg "max" = none
  dict : mg "dict" = none
/-- isinstance's answer -/
def isD (n : String) (d : PyData) : Bool := tyD d == n || (n == "int" && tyD d == "bool")
theorem ty_mem (d : PyData) : tyD d ∈ ["NoneType", "bool", "int", "str", "list", "tuple", "dict"] := by cases d <;> simp [tyD]
theorem kit_int (d : PyData) : kitB (tyD d) "int" = some (isD "int" d) :=
  (show ∀ n ∈ ["NoneType", "bool", "int", "str", "list", "tuple", "dict"], kitB n "int" = some (n == "int" || ("int" == "int" && n == "bool")) by decide +kernel) _ (ty_mem d)
theorem kit_bool (d : PyData) : kitB (tyD d) "bool" = some (isD "bool" d) :=
  (show ∀ n ∈ ["NoneType", "bool", "int", "str", "list", "tuple", "dict"], kitB n "bool" = some (n == "bool" || ("bool" == "int" && n == "bool")) by decide +kernel) _ (ty_mem d)
theorem kit_tuple (d : PyData) : kitB (tyD d) "tuple" = some (isD "tuple" d) :=
  (show ∀ n ∈ ["NoneType", "bool", "int", "str", "list", "tuple", "dict"], kitB n "tuple" = some (n == "tuple" || ("tuple" == "int" && n == "bool")) by decide +kernel) _ (ty_mem d)
theorem kit_str (d : PyData) : kitB (tyD d) "str" = some (isD "str" d) :=
  (show ∀ n ∈ ["NoneType", "bool", "int", "str", "list", "tuple", "dict"], kitB n "str" = some (n == "str" || ("str" == "int" && n == "bool")) by decide +kernel) _ (ty_mem d)
theorem kit_list (d : PyData) : kitB (tyD d) "list" = some (isD "list" d) :=
  (show ∀ n ∈ ["NoneType", "bool", "int", "str", "list", "tuple", "dict"], kitB n "list" = some (n == "list" || ("list" == "int" && n == "bool")) by decide +kernel) _ (ty_mem d)
theorem bt_int : bootBuiltins "int" = some (.type "int") := by decide +kernel
theorem bt_bool : bootBuiltins "bool" = some (.type "bool") := by decide +kernel
theorem bt_tuple : bootBuiltins "tuple" = some (.type "tuple") := by decide +kernel
theorem bt_str : bootBuiltins "str" = some (.type "str") := by decide +kernel
theorem bt_list : bootBuiltins "list" = some (.type "list") := by decide +kernel
section
variable {X : Cx} {a : Expr} {δ δ1 : List Sl} {d1 : PyData} {p p2 pos : Pos}
theorem pd_isInt (B : Frs X.mg) (ha : PED X δ a (D d1) δ1) (hg : Gl X "isinstance" := by rfl) (hgT : Gl X "int" := by rfl) (he : starEach [a, .Name "int" p2] X.env = (false, eval a X.env) :: starEach [.Name "int" p2] X.env := by rfl) :
    PED X δ (.Call (.Name "isinstance" p) [a, .Name "int" p2] [] pos) (D (.bool (isD "int" d1))) δ1 := pd_isi B.isi ha B.int bt_int (kit_int d1) hg hgT he
theorem pd_isBool (B : Frs X.mg) (ha : PED X δ a (D d1) δ1) (hg : Gl X "isinstance" := by rfl) (hgT : Gl X "bool" := by rfl) (he : starEach [a, .Name "bool" p2] X.env = (false, eval a X.env) :: starEach [.Name "bool" p2] X.env := by rfl) :
    PED X δ (.Call (.Name "isinstance" p) [a, .Name "bool" p2] [] pos) (D (.bool (isD "bool" d1))) δ1 := pd_isi B.isi ha B.bool bt_bool (kit_bool d1) hg hgT he
theorem pd_isTuple (B : Frs X.mg) (ha : PED X δ a (D d1) δ1) (hg : Gl X "isinstance" := by rfl) (hgT : Gl X "tuple" := by rfl) (he : starEach [a, .Name "tuple" p2] X.env = (false, eval a X.env) :: starEach [.Name "tuple" p2] X.env := by rfl) :
    PED X δ (.Call (.Name "isinstance" p) [a, .Name "tuple" p2] [] pos) (D (.bool (isD "tuple" d1))) δ1 := pd_isi B.isi ha B.tuple bt_tuple (kit_tuple d1) hg hgT he
theorem pd_isStr (B : Frs X.mg) (ha : PED X δ a (D d1) δ1) (hg : Gl X "isinstance" := by rfl) (hgT : Gl X "str" := by rfl) (he : starEach [a, .Name "str" p2] X.env = (false, eval a X.env) :: starEach [.Name "str" p2] X.env := by rfl) :
    PED X δ (.Call (.Name "isinstance" p) [a, .Name "str" p2] [] pos) (D (.bool (isD "str" d1))) δ1 := pd_isi B.isi ha B.str bt_str (kit_str d1) hg hgT he
theorem pd_isList (B : Frs X.mg) (ha : PED X δ a (D d1) δ1) (hg : Gl X "isinstance" := by rfl) (hgT : Gl X "list" := by rfl) (he : starEach [a, .Name "list" p2] X.env = (false, eval a X.env) :: starEach [.Name "list" p2] X.env := by rfl) :
    PED X δ (.Call (.Name "isinstance" p) [a, .Name "list" p2] [] pos) (D (.bool (isD "list" d1))) δ1 := pd_isi B.isi ha B.list bt_list (kit_list d1) hg hgT he
end
end Ct

-- DL8
set_option Elab.async false
set_option linter.all false
set_option maxRecDepth 100000
set_option maxHeartbeats 1000000
/-! DL8: typed comprehensions, in, methods of texts, own lists and dicts. -/
namespace Ct
open PySem PySem.Spec L2

section
variable {X : Cx} {e a b tg elt iter : Expr} {δ δ1 δ2 δ' : List Sl} {pos p : Pos} {scope : Scope} {ifs : List Expr} {d1 d2 : PyData}
theorem PID.eq {items items' : List PyData} (h : PID X δ tg e items δ') (q : items = items') : PID X δ tg e items' δ' := by subst q; exact h
theorem ptd_w {e : Expr} {b : Bool} (h : PWD X δ e b δ') : PTD X δ e b δ' := h.pt
/-! ### tests with an equation for each part -/
variable {c : Expr} {r1 r2 r3 : Bool} {rest : List Expr} {δ3 : List Sl} {rs : List Stmt} {bs : List (List Stmt)} {o : Out}
theorem w_orF (h : PTD X δ a r1 δ1) (q : r1 = false) (h2 : PWD X δ1 (.BoolOp .Or (b :: rest) pos) r2 δ2) : PWD X δ (.BoolOp .Or (a :: b :: rest) pos) r2 δ2 := by subst q; exact pwd_orF h h2
theorem w_orT (h : PTD X δ a r1 δ1) (q : r1 = true) : PWD X δ (.BoolOp .Or (a :: b :: rest) pos) true δ1 := by subst q; exact pwd_orT h
theorem w_andT (h : PTD X δ a r1 δ1) (q : r1 = true) (h2 : PWD X δ1 (.BoolOp .And (b :: rest) pos) r2 δ2) : PWD X δ (.BoolOp .And (a :: b :: rest) pos) r2 δ2 := by subst q; exact pwd_andT h h2
theorem w_andF (h : PTD X δ a r1 δ1) (q : r1 = false) : PWD X δ (.BoolOp .And (a :: b :: rest) pos) false δ1 := by subst q; exact pwd_andF h
theorem w_or1 (h : PTD X δ a r1 δ') : PWD X δ (.BoolOp .Or [a] pos) r1 δ' := pw_or1 h
theorem w_and1 (h : PTD X δ a r1 δ') : PWD X δ (.BoolOp .And [a] pos) r1 δ' := pw_and1 h
theorem b_ifT {x y : List Stmt} (hc : PTD X δ c r1 δ1) (q : r1 = true) (h : PBD X δ1 (x :: rs :: bs) o) : PBD X δ ((.If c x y pos :: rs) :: bs) o := by subst q; exact pbd_ifT hc h
theorem b_ifF {x y : List Stmt} (hc : PTD X δ c r1 δ1) (q : r1 = false) (h : PBD X δ1 (y :: rs :: bs) o) : PBD X δ ((.If c x y pos :: rs) :: bs) o := by subst q; exact pbd_ifF hc h
theorem b_no {x : List Stmt} (hc : PTD X δ c r1 δ1) (q : r1 = false) (h : PBD X δ1 (rs :: bs) o) : PBD X δ ((.If c x [] pos :: rs) :: bs) o := b_ifF hc q (pbd_pop h)
theorem b_ret {d d' : PyData} (h : PED X δ e (D d) δ1) (q : d = d') : PBD X δ ((.Return (some e) pos :: rs) :: bs) (.rt d' []) := by subst q; exact pbd_ret0 h
/-- and, as a value, part by part -/
theorem e_andT (h : PED X δ a (D (.bool r1)) δ1) (q : r1 = true) (h2 : PED X δ1 (.BoolOp .And (b :: rest) pos) (D (.bool r2)) δ2) : PED X δ (.BoolOp .And (a :: b :: rest) pos) (D (.bool r2)) δ2 := by
  subst q
  exact (pe_and h h2).imp fun σ H Q ⟨G0, H0, G, S, q⟩ => ⟨G0, H0, G, S, fun v G1 H1 g1 S1 rv => ⟨true, dt_bl rv, iteT ⟨G0, H0, G1, S1, fun v G2 H2 g2 S2 rv => q v G2 H2 (same_trans g1 g2) S2 rv⟩⟩⟩
theorem e_andF (h : PED X δ a (D (.bool r1)) δ1) (q : r1 = false) : PED X δ (.BoolOp .And (a :: b :: rest) pos) (D (.bool false)) δ1 := by
  subst q
  exact (pe_and h PE.never).imp fun σ H Q ⟨G0, H0, G, S, q⟩ => ⟨G0, H0, G, S, fun v G1 H1 g1 S1 rv => ⟨false, dt_bl rv, iteF (q _ G1 H1 g1 S1 (Dt.bl _))⟩⟩
theorem e_one {op} {d : Sl} (h : PED X δ a d δ') : PED X δ (.BoolOp op [a] pos) d δ' := pe_one h
/-! ### comprehensions over typed lists -/
theorem pd_lcM {α : Type} (own : List (Str × Nat)) (xs : List α) (g : α → PyData) (f : α → PyData) (t : α → Bool) (hc : X.calm = true) (hN : X.N.Nodup) (hi : PID X δ tg iter (xs.map g) δ1) (ok : BlkOk X.N X.env.scope scope own)
    (turn : ∀ x ∈ xs, ∃ δb, (∀ s H C cl fp, PG (Bk X scope s H C cl fp) tg (tDW X.prog X.w (own.map (·.2)) (wipeD δ1 (own.map (·.2))) (g x) δb)) ∧ (∀ s H C cl fp, PTsD (Bk X scope s H C cl fp) δb ifs (t x) δb) ∧
      (t x = true → ∀ s H C cl fp, PED (Bk X scope s H C cl fp) δb elt (D (f x)) δb) ∧ wipeD δb (own.map (·.2)) = wipeD δ1 (own.map (·.2)))
    (hz : xs.length < sizeLine) (hs : ∀ x, foldedSetIterable iter X.env x = pure x := by intro _; rfl) :
    PED X δ (.ListComp elt [⟨tg, iter, ifs, 0⟩] scope pos) (D (.list ((xs.filter t).map f))) (wipeD δ1 (own.map (·.2))) := by
  have ww : wipeD (wipeD δ1 (own.map (·.2))) (own.map (·.2)) = wipeD δ1 (own.map (·.2)) := wipeD_twice
  refine pd_lc own hc hN hi ok (fun i δa acc => δa = wipeD δ1 (own.map (·.2)) ∧ acc = ((xs.take i).filter t).map f) ⟨rfl, by simp⟩ (fun i d δa acc hd ⟨e1, e2⟩ => ?_) (fun δa acc ⟨e1, e2⟩ => ?_) (by rw [List.length_map]; exact hz) hs
  · subst e1
    rw [List.getElem?_map] at hd
    obtain ⟨x, hx, rfl⟩ := Option.map_eq_some_iff.mp hd
    obtain ⟨δb, hg, ht, he, hw⟩ := turn x (List.mem_of_getElem? hx)
    have et : xs.take (i + 1) = xs.take i ++ [x] := by rw [List.take_add_one, hx]; rfl
    cases hk : t x with
    | true =>
      refine ⟨_, _, ⟨δb, t x, δb, hg, ht, .inl ⟨hk, f x, δb, he hk, rfl, rfl⟩⟩, hw, ?_⟩
      rw [et, List.filter_append, List.map_append, e2]
      simp [hk]
    | false =>
      refine ⟨_, _, ⟨δb, t x, δb, hg, ht, .inr ⟨hk, rfl, rfl⟩⟩, hw, ?_⟩
      rw [et, List.filter_append, List.map_append, e2]
      simp [hk]
  · subst e1
    refine ⟨?_, ww⟩
    rw [e2, List.length_map, List.take_length]
/-- without tests -/
theorem pd_lcA {α : Type} (own : List (Str × Nat)) (xs : List α) (g : α → PyData) (f : α → PyData) (hc : X.calm = true) (hN : X.N.Nodup) (hi : PID X δ tg iter (xs.map g) δ1) (ok : BlkOk X.N X.env.scope scope own)
    (turn : ∀ x ∈ xs, ∃ δb, (∀ s H C cl fp, PG (Bk X scope s H C cl fp) tg (tDW X.prog X.w (own.map (·.2)) (wipeD δ1 (own.map (·.2))) (g x) δb)) ∧
      (∀ s H C cl fp, PED (Bk X scope s H C cl fp) δb elt (D (f x)) δb) ∧ wipeD δb (own.map (·.2)) = wipeD δ1 (own.map (·.2)))
    (hz : xs.length < sizeLine) (hs : ∀ x, foldedSetIterable iter X.env x = pure x := by intro _; rfl) :
    PED X δ (.ListComp elt [⟨tg, iter, [], 0⟩] scope pos) (D (.list (xs.map f))) (wipeD δ1 (own.map (·.2))) :=
  (pd_lcM own xs g f (fun _ => true) hc hN hi ok (fun x hx => by
    obtain ⟨δb, h1, h2, h3⟩ := turn x hx
    exact ⟨δb, h1, fun _ _ _ _ _ => ptsd_nil, fun _ => h2, h3⟩) hz hs).eq (by rw [List.filter_eq_self.mpr fun _ _ => rfl])
/-- all([c for ..]) -/
theorem pd_allM {α : Type} {p2 : Pos} (own : List (Str × Nat)) (xs : List α) (g : α → PyData) (b : α → Bool) (hc : X.calm = true) (hm : X.mg "all" = none) (hN : X.N.Nodup) (hi : PID X δ tg iter (xs.map g) δ1) (ok : BlkOk X.N X.env.scope scope own)
    (turn : ∀ x ∈ xs, ∃ δb, (∀ s H C cl fp, PG (Bk X scope s H C cl fp) tg (tDW X.prog X.w (own.map (·.2)) (wipeD δ1 (own.map (·.2))) (g x) δb)) ∧
      (∀ s H C cl fp, PED (Bk X scope s H C cl fp) δb elt (D (.bool (b x))) δb) ∧ wipeD δb (own.map (·.2)) = wipeD δ1 (own.map (·.2)))
    (hz : xs.length < sizeLine) (hs : ∀ x, foldedSetIterable iter X.env x = pure x := by intro _; rfl) (hg : Gl X "all" := by rfl)
    (he : starEach [.ListComp elt [⟨tg, iter, [], 0⟩] scope pos] X.env = (false, eval (.ListComp elt [⟨tg, iter, [], 0⟩] scope pos) X.env) :: starEach [] X.env := by rfl) :
    PED X δ (.Call (.Name "all" p) [.ListComp elt [⟨tg, iter, [], 0⟩] scope pos] [] p2) (D (.bool (xs.all b))) (wipeD δ1 (own.map (·.2))) :=
  (pd_all (bs := xs.map b) hc hm ((pd_lcA own xs g (fun x => .bool (b x)) hc hN hi ok turn hz hs).eq (by rw [List.map_map]; rfl)) hg he).eq (by rw [List.all_map]; rfl)
/-- all([c for ..]) where each c is true -/
theorem pd_allT {α : Type} {p2 : Pos} (own : List (Str × Nat)) (xs : List α) (g : α → PyData) (hc : X.calm = true) (hm : X.mg "all" = none) (hN : X.N.Nodup) (hi : PID X δ tg iter (xs.map g) δ1) (ok : BlkOk X.N X.env.scope scope own)
    (turn : ∀ x ∈ xs, ∃ δb, (∀ s H C cl fp, PG (Bk X scope s H C cl fp) tg (tDW X.prog X.w (own.map (·.2)) (wipeD δ1 (own.map (·.2))) (g x) δb)) ∧
      (∀ s H C cl fp, PED (Bk X scope s H C cl fp) δb elt (D (.bool true)) δb) ∧ wipeD δb (own.map (·.2)) = wipeD δ1 (own.map (·.2)))
    (hz : xs.length < sizeLine) (hs : ∀ x, foldedSetIterable iter X.env x = pure x := by intro _; rfl) (hg : Gl X "all" := by rfl)
    (he : starEach [.ListComp elt [⟨tg, iter, [], 0⟩] scope pos] X.env = (false, eval (.ListComp elt [⟨tg, iter, [], 0⟩] scope pos) X.env) :: starEach [] X.env := by rfl) :
    PED X δ (.Call (.Name "all" p) [.ListComp elt [⟨tg, iter, [], 0⟩] scope pos] [] p2) (D (.bool true)) (wipeD δ1 (own.map (·.2))) :=
  (pd_allM own xs g (fun _ => true) hc hm hN hi ok turn hz hs hg he).eq (by simp)
end
section
variable {X : Cx} {δ δ1 : List Sl} {bs : List (List Stmt)}
/-- slots forgotten -/
theorem pbd_wipe {o : Out} (vs : List Nat) (h : PBD X (wipeD δ vs) bs o) : PBD X δ bs o := pbd_weak (fun i s e => (wipeD_get e).imp_right fun q => q.2) (Nat.le_of_eq (wipeD_length vs)) h
theorem pbd_nx {δ' : List Sl} (h : δ = δ') : PBD X δ [[]] (.nx δ') := by subst h; exact pbd_pop pbd_nil
theorem pbd_end : PBD X δ [[]] (.nx δ) := pbd_pop pbd_nil
theorem ends_nx (h : PBD X δ1 bs (.nx δ)) : ∃ o, PBD X δ1 bs o ∧ Ends1 .none o := ⟨_, h, .inr ⟨rfl, _, rfl⟩⟩
theorem ends_rt {r : PyData} (h : PBD X δ1 bs (.rt r [])) : ∃ o, PBD X δ1 bs o ∧ Ends1 r o := ⟨_, h, .inl rfl⟩
end
end Ct

-- DL9
set_option Elab.async false
set_option linter.all false
set_option maxRecDepth 100000
set_option maxHeartbeats 1000000
/-! DL9: lists of one's own: made, grown, written at a place, sorted. -/
namespace Ct
open PySem PySem.Spec L2

/-- a new list of one's own -/
def tDN (P : Program) (w : World) (δ : List Sl) (ds : List PyData) (δ' : List Sl) : TE := fun σ H Q => ∃ G0 H0 G, StOk P w G0 H0 δ σ G H ∧ ∀ p xs G' H', Same G G' → StOk P w G0 H0 δ' σ G' H' → H' p = none → DtAll G' xs ds → Q (.ref p) (upd H' p (.lst xs))
abbrev PND (X : Cx) (δ : List Sl) (e : Expr) (ds : List PyData) (δ' : List Sl) : Prop := PE X e (tDN X.prog X.w δ ds δ')
section
variable {X : Cx} {e a b c : Expr} {δ δ1 δ2 δ' : List Sl} {pos p : Pos} {d1 r : PyData} {es : List Expr} {ps ds xs : List PyData} {rest : List Stmt} {bs : List (List Stmt)} {o : Out} {d : PyData}
theorem pn_lst (h : PAD X δ es (ps.map D) δ1) (hz : ps.length ≤ sizeLine := by exact Nat.le_of_ble_eq_true rfl) : PND X δ (.List es pos) ps δ1 :=
  (pe_lst h).imp fun σ H Q ⟨G0, H0, G, S, q⟩ => ⟨G0, H0, G, S, fun vs G1 H1 g1 S1 rvs => by
    have ha := vsok_all rvs
    exact ⟨by rw [ha.length]; exact hz, fun p hp => q p vs G1 H1 g1 S1 hp ha⟩⟩
theorem pn_list (hm : X.mg "list" = none) (ha : PED X δ a (D d1) δ1) (k : SeqD d1 xs) (hg : Gl X "list" := by rfl) (he : starEach [a] X.env = (false, eval a X.env) :: starEach [] X.env := by rfl) : PND X δ (.Call (.Name "list" p) [a] [] pos) xs δ1 := by
  refine (pe_callTy call_list_of hg hm (by decide +kernel) (pad_cons ha pad_nil he) (he := he)).imp fun σ H Q ⟨G0, H0, G, S, q⟩ => ⟨G0, H0, G, S, fun vs G1 H1 g1 S1 rvs => ?_⟩
  obtain ⟨v, rfl, rv⟩ := vsok1 rvs
  obtain ⟨p, us, rfl, h1, h2⟩ := k.at (K := X.K) S1.gh rv
  exact ⟨p, us, rfl, h1, fun l hl => q l us G1 H1 g1 S1 hl h2⟩
/-- name = a new list -/
theorem pbd_own (i : Nat) {x : Str} {pos' : Pos} (hN : X.N.Nodup) (h : PND X δ e ds δ1) (hr : PBD X (δ1.set i (.lst ds)) (rest :: bs) o) (hi : X.N[i]? = some x := by rfl) (hx : Loc X.env.scope x := by first | exact Or.inl rfl | exact Or.inr rfl)
    (hs : swapsWith e (some (.Name x pos')) pos.line X.env = pure false := by rfl) (hf : X.fn x = true ∨ X.env.scope.names.lookup x = some .local := by first | exact .inl rfl | exact .inr rfl | assumption) :
    PBD X δ ((.Assign [.Name x pos'] e pos :: rest) :: bs) o :=
  (pb_cons (ps_set hN hi hx h hs hf)).imp fun E σ H ⟨G0, H0, G, S, q⟩ => ⟨G0, H0, G, S, fun l xs G' H' g S' hl ha => ⟨_, hr, G0, H0, G', S'.storeNew hl ⟨l, xs, rfl, upd_same, ha⟩ rfl, q.up g⟩⟩
/-- name.append(e) -/
theorem pbd_append (i : Nat) {x : Str} {p1 apos spos : Pos} (hd : δ[i]? = some (.lst ds)) (h : PED X δ e (D d) δ1) (hd1 : δ1[i]? = some (.lst ds)) (hz : ds.length < sizeLine) (hr : PBD X (δ1.set i (.lst (ds ++ [d]))) (rest :: bs) o)
    (hN : X.N[i]? = some x := by rfl) (hv : Vis X.env.scope x := by first | exact Or.inl rfl | exact Or.inr (Or.inl rfl) | exact Or.inr (Or.inr rfl)) (hdb : (x == ("__debug__" : Str)) = false := by decide) (hcd : (x == ("__classdict__" : Str)) = false := by decide)
    (hbase : attributeBase (.Name x p1) "append" X.env (eval (.Name x p1) X.env) = eval (.Name x p1) X.env := by rfl)
    (hfew : ((backTo pos (starEach [e] X.env)).all (fun x => !x.1) && (backToKw pos (keywordEach [] X.env)).all (fun x => x.1.isSome)
      && decide (([e] : List Expr).length + ([] : List Keyword).length + (if ([] : List Keyword).isEmpty then 0 else 1) < 30)) = true := by rfl)
    (hline : (apos.endLine == pos.line) = true := by rfl) (hs : starEach [e] X.env = (false, eval e X.env) :: starEach [] X.env := by rfl) (hplain : (backTo pos (starEach [] X.env)).any (·.1) = false := by rfl)
    (hsw : swapsWith (.Call (.Attribute (.Name x p1) "append" apos) [e] [] pos) none spos.line X.env = pure false := by rfl) :
    PBD X δ ((.Expr (.Call (.Attribute (.Name x p1) "append" apos) [e] [] pos) spos :: rest) :: bs) o := by
  refine (pb_cons (ps_expr (pe_bm PySem.F.plainAttrs_list PySem.F.slot_list_append PySem.F.type_list_append mt_append (pv i hN hv hdb hcd) (pa_cons h pa_nil hs) hbase hfew hline hs hplain) hsw)).imp fun E σ H ⟨G0, H0, G, S, q⟩ => ?_
  obtain ⟨l, xs, e1, hl, ha, _⟩ := S.lstAt hd
  refine ⟨.ref l, e1, .inl ⟨rfl, xs, .of hl⟩, G0, H0, G, S, fun v G1 H1 g1 S1 rv => ?_⟩
  obtain ⟨l', xs', e1', hl', ha', ho⟩ := S1.lstAt hd1
  rw [e1] at e1'; cases e1'
  refine ⟨l, xs', v, rfl, rfl, hl', by rw [ha'.length]; exact hz, _, hr, G0, H0, G1, S1.mut hd1 ho ?_ rfl, q.up g1⟩
  exact ⟨l, _, rfl, upd_same, ha'.append (.cons rv .nil)⟩
/-- name[b] = .. -/
theorem pgd_setO (i : Nat) {x : Str} {k : Int} {j : Nat} {p1 : Pos} (hd : δ[i]? = some (.lst ds)) (hb : PED X δ b (D (.int k)) δ) (hj : ixN ds.length k = some j)
    (hN : X.N[i]? = some x := by rfl) (hv : Vis X.env.scope x := by first | exact Or.inl rfl | exact Or.inr (Or.inl rfl) | exact Or.inr (Or.inr rfl)) (hdb : (x == ("__debug__" : Str)) = false := by decide) (hcd : (x == ("__classdict__" : Str)) = false := by decide)
    (ha : ∀ v, assign (.Subscript (.Name x p1) b pos) X.env v = (do
      let ov ← holding [v] (eval (.Name x p1) X.env)
      let iv ← holding [v, ov] (eval b X.env)
      standAt pos
      holding [v, ov, iv] (setItem ov iv v)
      release [v, ov, iv] []) := by intro _; rfl) : PGD X δ (.Subscript (.Name x p1) b pos) d (δ.set i (.lst (ds.set j d))) :=
  (pg_sub (pv i hN hv hdb hcd) hb set_list ha).imp fun v σ H Q ⟨G0, H0, G, S, rv, q⟩ => by
    obtain ⟨l, xs, e1, hl, hal, _⟩ := S.lstAt hd
    refine ⟨.ref l, e1, G0, H0, G, S, fun iv G1 H1 g1 S1 ri => ?_⟩
    obtain ⟨l', xs', e1', hl', ha', ho⟩ := S1.lstAt hd
    rw [e1] at e1'; cases e1'
    refine ⟨l, xs', k, j, rfl, dt_int ri, hl', by rw [ha'.length]; exact hj, q _ G1 _ g1 (S1.mut hd ho ?_ rfl)⟩
    exact ⟨l, _, rfl, upd_same, DtAll.setAt (Dt.up rv g1) j ha'⟩
end

/-! ### sorted -/
theorem dt_pairs {G : Hp} : ∀ {vs : List V} {ds : List PyData}, DtAll G vs ds → ∀ p ∈ vs.zip ds, Dt G p.1 p.2
  | _, [], h => by cases h; intro p hp; cases hp
  | _, d :: ds, h => by
    cases h with
    | cons h1 h2 =>
      intro p hp
      rcases List.mem_cons.mp hp with rfl | hp
      · exact h1
      · exact dt_pairs h2 p hp
theorem dt_of_pairs {G : Hp} : ∀ {ps : List (V × PyData)}, (∀ p ∈ ps, Dt G p.1 p.2) → DtAll G (ps.map (·.1)) (ps.map (·.2))
  | [], _ => .nil
  | p :: ps, h => .cons (h p List.mem_cons_self) (dt_of_pairs fun q hq => h q (List.mem_cons_of_mem _ hq))
def rSortD (K : PySem.W.Frag) (G : Hp) (ds : List PyData) : List V → Hp → VK → Prop := fun xs H Q => ∃ p us, xs = [.ref p] ∧ SqL K H p us ∧ Same G H ∧ DtAll G us ds ∧ ∀ q vs, H q = none → DtAll G vs (ds.mergeSort (PySem.W.dataLe false _root_.id)) → Q (.ref q) (upd H q (.lst vs))
theorem paired_zip : ∀ {us : List V} {its : List Value} {ds : List PyData}, Vals us its → us.length = ds.length → PySem.W.EachIs (fun (v : Value) (b : V × PyData) => RelV b.1 v) its (us.zip ds)
  | _, _, [], .nil, _ => .nil
  | _, _, d :: ds, .cons r t, h => .cons r (paired_zip t (by simpa using h))
  | _, _, [], .cons r t, h => by simp at h
  | _, _, _ :: _, .nil, h => by simp at h
theorem eachIs_and {α β : Type} {R R' : α → β → Prop} : ∀ {as : List α} {bs : List β}, PySem.W.EachIs R as bs → (∀ b ∈ bs, ∀ a, R a b → R' a b) → PySem.W.EachIs R' as bs
  | _, _, .nil, _ => .nil
  | _, _, .cons h t, k => .cons (k _ List.mem_cons_self _ h) (eachIs_and t fun b hb => k b (List.mem_cons_of_mem _ hb))
theorem eachIs_vals {f : V × PyData → V} : ∀ {out : List Value} {bs : List (V × PyData)}, PySem.W.EachIs (fun (v : Value) b => RelV (f b) v) out bs → Vals (bs.map f) out
  | _, _, .nil => .nil
  | _, _, .cons h t => .cons h (eachIs_vals t)
theorem zip_snd : ∀ {us : List V} {ds : List PyData}, us.length = ds.length → (us.zip ds).map (·.2) = ds
  | [], [], _ => rfl
  | _ :: _, _ :: _, h => congrArg (_ :: ·) (zip_snd (by simpa using h))
  | [], _ :: _, h => by simp at h
  | _ :: _, [], h => by simp at h
theorem call_sortedD {X : Cx} {G : Hp} {ds : List PyData} (hu : X.A.units + 100 < cLine) (hal : PySem.W.AllAlike ds) (hk : PySem.W.Sortable ds) (hdp : ∀ d ∈ ds, d.depth ≤ 64) : CallR X (.builtin "sorted") (rSortD X.K G ds) := by
  intro pins s σ H xs us Q I r h
  obtain ⟨p, vs, rfl, hq, g, ha, q⟩ := h
  obtain ⟨u, rfl, rx⟩ := vals1 r
  cases rx
  obtain ⟨its, rv, pl, hz⟩ := I.list hq
  have hl : vs.length = ds.length := ha.length
  have hs := zip_snd hl
  have hall : ∀ b ∈ vs.zip ds, Dt G b.1 b.2 := dt_pairs ha
  have e0 := paired_zip rv hl
  have er : PySem.W.EachIs (fun v (b : V × PyData) => ∃ as, Reads s.heap v b.2 as) its (vs.zip ds) := eachIs_and e0 fun b hb v hv => Dp.reads I b.2 b.1 v (Dt.dp _ (Dt.up (hall b hb) g)) hv
  refine PySem.W.sorted_data (β := V × PyData) (R := fun v b => RelV b.1 v) (enc := fun b => b.2) (bs := vs.zip ds) pl.isList e0 er ?_ ?_ ?_ (fun b hb => ?_) fun out hlo ho => ?_
  · rw [hs]; exact hal
  · rw [hs]; exact hk
  · rw [List.length_zip, hl, Nat.min_self, ← hl]; exact hz
  · have : b.2 ∈ ds := by rw [← hs]; exact List.mem_map.mpr ⟨b, hb, rfl⟩
    have := hdp _ this
    omega
  · obtain ⟨ep, he'⟩ := PyProof.Rows.sortedAll_at s.heap its out.toArray
    have hv := eachIs_vals ho
    have hsz : out.length ≤ sizeLine := by rw [hlo, List.length_zip, hl, Nat.min_self, ← hl]; exact hz
    refine ⟨.ref _, upd H (s.heap.objs.size + 1) (.lst (((vs.zip ds).mergeSort (PySem.W.dataLe false fun b => b.2)).map (·.1))), I.laid (t' := s.toks) (fun _ _ => PyProof.Rows.sortedAll_old) (Nat.le_succ _) ⟨by rw [hv.length]; exact hsz, out, ep, hv, he'⟩, rfl, q _ _ (I.hok.fresh (Nat.le_succ _)) ?_⟩
    have h2 := dt_of_pairs (G := G) (ps := (vs.zip ds).mergeSort (PySem.W.dataLe false fun b => b.2)) fun b hb => hall b (List.mem_mergeSort.mp hb)
    have e3 : ((vs.zip ds).mergeSort (PySem.W.dataLe false fun b => b.2)).map (·.2) = ds.mergeSort (PySem.W.dataLe false _root_.id) := by
      exact (List.map_mergeSort (r := PySem.W.dataLe false fun b : V × PyData => b.2) (s := PySem.W.dataLe false _root_.id) (f := fun b : V × PyData => b.2) (l := vs.zip ds) (fun a _ b _ => rfl)).trans (by rw [hs])
    rw [e3] at h2
    exact h2
section
variable {X : Cx} {a : Expr} {δ δ1 : List Sl} {pos p : Pos} {ds : List PyData}
/-- sorted(name), name a list of one's own -/
theorem pd_sortedO (i : Nat) {x : Str} {p1 : Pos} (hc : X.calm = true) (hm : X.mg "sorted" = none) (hd : δ[i]? = some (.lst ds)) (hu : X.A.units + 100 < cLine) (hal : PySem.W.AllAlike ds) (hk : PySem.W.Sortable ds) (hdp : ∀ d ∈ ds, d.depth ≤ 64)
    (hN : X.N[i]? = some x := by rfl) (hv : Vis X.env.scope x := by first | exact Or.inl rfl | exact Or.inr (Or.inl rfl) | exact Or.inr (Or.inr rfl)) (hg : Gl X "sorted" := by rfl) (hdb : (x == ("__debug__" : Str)) = false := by decide) (hcd : (x == ("__classdict__" : Str)) = false := by decide) :
    PED X δ (.Call (.Name "sorted" p) [.Name x p1] [] pos) (D (.list (ds.mergeSort (PySem.W.dataLe false _root_.id)))) δ := by
  refine ⟨fun pins s σ H Q I h => ?_⟩
  obtain ⟨G0, H0, G, S, q⟩ := h
  obtain ⟨l, xs, e1, hl, ha, _⟩ := S.lstAt hd
  refine (pe_callB (call_sortedD (G := G) hu hal hk hdp) hg hm PyProof.Rows.boot_sorted (pa_cons (pv i hN hv hdb hcd) pa_nil)).run pins s σ H Q I ⟨.ref l, e1, l, xs, rfl, .of hl, S.gh, ha, fun k vs hk hvs => ?_⟩
  exact Ext.lst S.gh (fun v G' H' x rv => q v G' H' x.gg (S.ext x) rv) hvs k hk
end
end Ct

-- DL10
set_option Elab.async false
set_option linter.all false
set_option maxRecDepth 100000
set_option maxHeartbeats 1000000
/-! DL10: dicts of one's own with nested keys. -/
namespace Ct
open PySem PySem.Spec L2

/-! ### a key in the state -/
section
variable {X : Cx} {pins : List (Addr × Obj)} {σ : L2.St} {H G : Hp} {s : Shared}
mutual
theorem nk_is (I : Inv X pins σ H s) (g : Same G H) : ∀ (d : PyData) (k : NestedKey) (v : V) (u : Value), Dt G v d → nkOf d = some k → RelV v u → NestedIs s.heap k u
  | .int i, k, _, _, h, hk, r => by
    cases h
    rw [nkOf] at hk; cases hk
    obtain ⟨t, rfl⟩ := r
    exact .int i t
  | .tuple ds, k, _, _, h, hk, r => by
    cases h with
    | tup h1 h2 =>
      cases r
      rw [nkOf] at hk
      obtain ⟨ks, hks, rfl⟩ := Option.map_eq_some_iff.mp hk
      obtain ⟨its, rv, ⟨o, ho, hc, n, hd⟩, _⟩ := I.tuple (.of (g _ _ h1))
      exact .tup ho hc hd (by simpa using nk_all I g ds ks _ its h2 hks rv)
  | .none, k, _, _, _, hk, _ => by rw [nkOf] at hk <;> first | cases hk | (intros; intro z; cases z)
  | .bool _, k, _, _, _, hk, _ => by rw [nkOf] at hk <;> first | cases hk | (intros; intro z; cases z)
  | .str _, k, _, _, _, hk, _ => by rw [nkOf] at hk <;> first | cases hk | (intros; intro z; cases z)
  | .list _, k, _, _, _, hk, _ => by rw [nkOf] at hk <;> first | cases hk | (intros; intro z; cases z)
  | .dict _, k, _, _, _, hk, _ => by rw [nkOf] at hk <;> first | cases hk | (intros; intro z; cases z)
theorem nk_all (I : Inv X pins σ H s) (g : Same G H) : ∀ (ds : List PyData) (ks : List NestedKey) (vs : List V) (us : List Value), DtAll G vs ds → nksOf ds = some ks → Vals vs us → NestedAll s.heap ks us
  | [], ks, _, _, h, hk, r => by
    cases h
    cases r
    rw [nksOf] at hk; cases hk
    exact .nil
  | d :: ds, ks, _, _, h, hk, r => by
    cases h with
    | cons h1 h2 =>
      cases r with
      | cons r1 r2 =>
        rw [nksOf] at hk
        cases e1 : nkOf d with
        | none => rw [e1] at hk; simp at hk
        | some k =>
          cases e2 : nksOf ds with
          | none => rw [e1, e2] at hk; simp at hk
          | some ks' =>
            rw [e1, e2] at hk
            cases hk
            exact .cons (nk_is I g d k _ _ h1 e1 r1) (nk_all I g ds ks' _ _ h2 e2 r2)
end
end
theorem nk_ref {G : Hp} {v : V} {d : PyData} {k : NestedKey} (h : Dt G v d) (hk : nkOf d = some k) (hn : ∀ i, d ≠ .int i) : ∃ a, v = .ref a := by
  cases h with
  | tup h1 h2 => exact ⟨_, rfl⟩
  | lst h1 h2 => exact ⟨_, rfl⟩
  | int i => exact absurd rfl (hn i)
  | non => rw [nkOf] at hk <;> first | cases hk | (intros; intro z; cases z)
  | bl b => rw [nkOf] at hk <;> first | cases hk | (intros; intro z; cases z)
  | str x => rw [nkOf] at hk <;> first | cases hk | (intros; intro z; cases z)

/-! ### the object -/
abbrev KN (X : Cx) := nestedKind X.prog X.w
section
variable {P : Program} {w : World} {h h1 h2 : Heap} {a : Addr} {zs : List (NestedKey × Addr × V)} {H : Hp}
theorem raw_at (R : DictRaw3 P w h1 a zs) (k : ∀ o, h1.get? a = some o → h2.get? a = some o) : DictRaw3 P w h2 a zs := by
  obtain ⟨z, hs, xs, rel, o, es, ep, ho, r⟩ := R
  exact ⟨z, hs, xs, rel, o, es, ep, k o ho, r⟩
theorem raw_ok (R : DictRaw3 P w h a zs) : ObjOk P w H h a (dHO P w a zs) := by
  have ⟨_, _, _, _, o, _, _, ho, _⟩ := R
  exact ⟨R, ⟨o, ho⟩, fun h1 h2 p k => raw_at p k⟩
end
abbrev RelE (p : NestedKey × Addr × V) (q : NestedKey × Addr × Value) : Prop := p.1 = q.1 ∧ p.2.1 = q.2.1 ∧ RelV p.2.2 q.2.2
theorem paired_mem {α β : Type} {R : α → β → Prop} : ∀ {xs : List α} {ys : List β}, Paired R xs ys → ∀ y ∈ ys, ∃ x ∈ xs, R x y
  | _, _, .nil, _, h => by cases h
  | _, _, .cons r t, y, h => by
    rcases List.mem_cons.mp h with rfl | h
    · exact ⟨_, List.mem_cons_self, r⟩
    · obtain ⟨x, hx, q⟩ := paired_mem t y h
      exact ⟨x, List.mem_cons_of_mem _ hx, q⟩
theorem paired_meml {α β : Type} {R : α → β → Prop} : ∀ {xs : List α} {ys : List β}, Paired R xs ys → ∀ x ∈ xs, ∃ y ∈ ys, R x y
  | _, _, .nil, _, h => by cases h
  | _, _, .cons r t, y, h => by
    rcases List.mem_cons.mp h with rfl | h
    · exact ⟨_, List.mem_cons_self, r⟩
    · obtain ⟨x, hx, q⟩ := paired_meml t y h
      exact ⟨x, List.mem_cons_of_mem _ hx, q⟩
theorem paired_app {α β : Type} {R : α → β → Prop} : ∀ {xs xs' : List α} {ys ys' : List β}, Paired R xs ys → Paired R xs' ys' → Paired R (xs ++ xs') (ys ++ ys')
  | _, _, _, _, .nil, h => h
  | _, _, _, _, .cons r t, h => .cons r (paired_app t h)
section
variable {X : Cx} {pins : List (Addr × Obj)} {σ : L2.St} {H G : Hp} {s : Shared} {p : Addr} {zs : List (NestedKey × Addr × V)} {kvs : List (PyData × PyData)}
/-- the tracked dict, as the library tells it -/
theorem dk_there (I : Inv X pins σ H s) (g : Same G H) (hp : H p = some (dHO X.prog X.w p zs)) (hk : Paired (DkOk G) zs kvs) :
    zs.length ≤ sizeLine ∧ (p == sysModules) = false ∧ ∃ xs, Paired RelE zs xs ∧ s.heap.DictOfH (KN X) p xs := by
  obtain ⟨z, hs, xs, rel, o, es, ep, ho, hc, hd, he, hn⟩ := (I.hok p _ hp).1
  refine ⟨z, hs, xs, rel, o, es, ep, ho, hc, hd, he, fun x hx => ?_, hn⟩
  obtain ⟨y, hy, e1, e2, e3⟩ := paired_mem rel x hx
  obtain ⟨kv, _, k1, k2, k3, _⟩ := paired_meml hk y hy
  rw [← e1, ← e2]
  exact ⟨nk_is I g kv.1 y.1 _ _ k3 k1 rfl, k2⟩
/-- the library's word for a dict, tracked -/
theorem dk_made {P : Program} {w : World} {h : Heap} {xs : List (NestedKey × Addr × Value)} (z : zs.length ≤ sizeLine) (hs : (p == sysModules) = false) (rel : Paired RelE zs xs) (D : h.DictOfH (nestedKind P w) p xs) : DictRaw3 P w h p zs := by
  obtain ⟨o, es, ep, ho, hc, hd, he, _, hn⟩ := D
  exact ⟨z, hs, xs, rel, o, es, ep, ho, hc, hd, he, hn⟩
end

/-! ### keys of a type -/
/-- data of a type that are keys -/
structure Kd (α : Type) where
  dat : α → PyData
  nk : α → NestedKey
  ok : ∀ a, nkOf (dat a) = some (nk a)
  dep : ∀ a, (nk a).depth ≤ 8
  inj : ∀ a b, nk a = nk b → a = b
  ni : ∀ a i, dat a ≠ .int i
section
variable {α : Type} [DecidableEq α] {β : Type}
def aGet (M : List (α × β)) (a : α) : Option β := (M.find? fun e => decide (e.1 = a)).map (·.2)
def aPut (M : List (α × β)) (a : α) (b : β) : List (α × β) := if (aGet M a).isSome then M.map (fun e => if e.1 = a then (e.1, b) else e) else M ++ [(a, b)]
/-- the entries as data -/
def dEnt (kd : Kd α) (dv : β → PyData) (M : List (α × β)) : List (PyData × PyData) := M.map fun e => (kd.dat e.1, dv e.2)
variable {kd : Kd α} {dv : β → PyData} {G : Hp}
theorem ent_get : ∀ {M : List (α × β)} {zs : List (NestedKey × Addr × V)} {xs : List (NestedKey × Addr × Value)} (a : α), Paired (DkOk G) zs (dEnt kd dv M) → Paired RelE zs xs →
    (aGet M a = none → atKey xs (kd.nk a) = none) ∧ ∀ b, aGet M a = some b → ∃ ad u v, atKey xs (kd.nk a) = some (ad, u) ∧ RelV v u ∧ Dt G v (dv b)
  | [], _, _, a, h1, h2 => by
    cases h1; cases h2
    exact ⟨fun _ => rfl, fun b h => by cases h⟩
  | e :: M, _, _, a, h1, h2 => by
    cases h1 with
    | cons k t =>
      cases h2 with
      | cons q t' =>
        rename_i z zs x xs
        obtain ⟨k1, k2, k3, k4⟩ := k
        obtain ⟨q1, q2, q3⟩ := q
        have ih := ent_get (M := M) a t t'
        have ek : z.1 = kd.nk e.1 := by rw [kd.ok] at k1; exact (Option.some.inj k1).symm
        by_cases hea : e.1 = a
        · have hx : x.1 = kd.nk a := by rw [← q1, ek, hea]
          refine ⟨fun hn => ?_, fun b hb => ?_⟩
          · simp [aGet, hea] at hn
          · simp [aGet, hea] at hb
            subst hb
            exact ⟨x.2.1, x.2.2, z.2.2, by simp [atKey, hx], q3, k4⟩
        · have hx : ¬ x.1 = kd.nk a := by rw [← q1, ek]; exact fun h => hea (kd.inj _ _ h)
          have e1 : aGet (e :: M) a = aGet M a := by simp [aGet, hea]
          have e2 : atKey (x :: xs) (kd.nk a) = atKey xs (kd.nk a) := by simp [atKey, hx]
          rw [e1, e2]
          exact ih
theorem ent_some {M : List (α × β)} {zs : List (NestedKey × Addr × V)} {xs : List (NestedKey × Addr × Value)} (a : α) (h1 : Paired (DkOk G) zs (dEnt kd dv M)) (h2 : Paired RelE zs xs) : (atKey xs (kd.nk a)).isSome = (aGet M a).isSome := by
  obtain ⟨n, k⟩ := ent_get a h1 h2
  cases e : aGet M a with
  | none => rw [n e]; rfl
  | some b => obtain ⟨ad, u, v, e1, _⟩ := k b e; rw [e1]; rfl
/-- entries put -/
def zPut (zs : List (NestedKey × Addr × V)) (found : Bool) (k : NestedKey) (a : Addr) (v : V) : List (NestedKey × Addr × V) := if found then zs.map (fun z => if z.1 = k then (z.1, z.2.1, v) else z) else zs ++ [(k, a, v)]
theorem ent_put1 {M : List (α × β)} {zs : List (NestedKey × Addr × V)} (a : α) (b : β) {ad : Addr} {v : V} (h1 : Paired (DkOk G) zs (dEnt kd dv M)) (ka : Dt G (.ref ad) (kd.dat a)) (rb : Dt G v (dv b)) :
    Paired (DkOk G) (zPut zs (aGet M a).isSome (kd.nk a) ad v) (dEnt kd dv (aPut M a b)) := by
  unfold zPut aPut
  cases e : (aGet M a).isSome with
  | false =>
    simp only [if_neg Bool.false_ne_true]
    unfold dEnt at h1 ⊢
    rw [List.map_append]
    exact paired_app h1 (.cons ⟨kd.ok a, kd.dep a, ka, rb⟩ .nil)
  | true =>
    simp only [if_true]
    clear e
    induction M generalizing zs with
    | nil => cases h1; exact .nil
    | cons e M ih =>
      cases h1 with
      | cons k t =>
        rename_i z zs
        obtain ⟨k1, k2, k3, k4⟩ := k
        have ek : z.1 = kd.nk e.1 := by rw [kd.ok] at k1; exact (Option.some.inj k1).symm
        refine .cons ?_ (ih t)
        dsimp only
        by_cases hea : e.1 = a
        · rw [if_pos hea, if_pos (by rw [ek, hea])]
          exact ⟨k1, k2, k3, rb⟩
        · rw [if_neg hea, if_neg (by rw [ek]; exact fun h => hea (kd.inj _ _ h))]
          exact ⟨k1, k2, k3, k4⟩
theorem ent_put2 {zs : List (NestedKey × Addr × V)} {xs : List (NestedKey × Addr × Value)} {k : NestedKey} {ad : Addr} {v : V} {u : Value} (h2 : Paired RelE zs xs) (ru : RelV v u) :
    Paired RelE (zPut zs (atKey xs k).isSome k ad v) (storedH xs k ad u) := by
  unfold zPut storedH
  cases e : (atKey xs k).isSome with
  | false =>
    simp only [if_neg Bool.false_ne_true]
    exact paired_app h2 (.cons ⟨rfl, rfl, ru⟩ .nil)
  | true =>
    simp only [if_true]
    clear e
    induction h2 with
    | nil => exact .nil
    | cons q t ih =>
      rename_i z x zs xs
      obtain ⟨q1, q2, q3⟩ := q
      refine .cons ?_ ih
      unfold putAt
      dsimp only
      rw [q1]
      by_cases hx : x.1 = k
      · rw [if_pos hx, if_pos hx]; exact ⟨rfl, q2, ru⟩
      · rw [if_neg hx, if_neg hx]; exact ⟨q1, q2, q3⟩
end

/-! ### the operations -/
theorem kd_ref {α : Type} {kd : Kd α} {G : Hp} {v : V} {a : α} (h : Dt G v (kd.dat a)) : ∃ b, v = .ref b := nk_ref h (kd.ok a) (kd.ni a)
section
variable {X : Cx} {pins : List (Addr × Obj)} {σ : L2.St} {H G : Hp} {s : Shared} {p b : Addr} {α : Type} [DecidableEq α] {β : Type} {kd : Kd α} {dv : β → PyData} {M : List (α × β)} {zs : List (NestedKey × Addr × V)}
def rInK (P : Program) (w : World) (kd : Kd α) (dv : β → PyData) (M : List (α × β)) (neg : Bool) : R2 := fun x y H Q => ∃ (G : Hp), ∃ p zs k, y = .ref p ∧ H p = some (dHO P w p zs) ∧ Same G H ∧ Paired (DkOk G) zs (dEnt kd dv M) ∧ Dt G x (kd.dat k) ∧ Q (.bl (if neg then !(aGet M k).isSome else (aGet M k).isSome)) H
theorem room_k (hu : X.A.units + 100 < cLine) : (KN X).room X.A.in1 := by
  show X.A.units + 1 + 8 < cLine
  omega
theorem key_at (I : Inv X pins σ H s) (g : Same G H) {k : α} (hx : Dt G (.ref b) (kd.dat k)) : (KN X).is s.heap (kd.nk k) b := ⟨nk_is I g _ _ _ _ hx (kd.ok k) rfl, kd.dep k⟩
theorem op_inK (hu : X.A.units + 100 < cLine) : OpR X (compareOp .In) (rInK X.prog X.w kd dv M false) := by
  intro pins s σ H x y v u Q I rx ry h
  obtain ⟨G, p, zs, k, rfl, hp, g, hk, hx, q⟩ := h
  obtain ⟨b, rfl⟩ := kd_ref hx
  cases rx
  cases ry
  obtain ⟨z, hs, xs, rel, D⟩ := dk_there I g hp hk
  refine wpAny_in_heap (room_k hu) (key_at I g hx) hs D ?_
  rw [ent_some k hk rel]
  exact ⟨.bl _, H, I.tok _, rfl, q⟩
theorem op_notInK (hu : X.A.units + 100 < cLine) : OpR X (compareOp .NotIn) (rInK X.prog X.w kd dv M true) := by
  intro pins s σ H x y v u Q I rx ry h
  obtain ⟨G, p, zs, k, rfl, hp, g, hk, hx, q⟩ := h
  obtain ⟨b, rfl⟩ := kd_ref hx
  cases rx
  cases ry
  obtain ⟨z, hs, xs, rel, D⟩ := dk_there I g hp hk
  refine notIn_keyed (room_k hu) (key_at I g hx) hs ⟨xs, D, rfl⟩ ?_
  rw [valueAt_pairsH, Option.isSome_map, ent_some k hk rel]
  exact ⟨.bl _, H, I.tok _, rfl, q⟩
def rGetK (P : Program) (w : World) (kd : Kd α) (dv : β → PyData) (M : List (α × β)) : R2 := fun x y H Q => ∃ (G : Hp), ∃ p zs k c, x = .ref p ∧ H p = some (dHO P w p zs) ∧ Same G H ∧ Paired (DkOk G) zs (dEnt kd dv M) ∧ Dt G y (kd.dat k) ∧ aGet M k = some c ∧ ∀ v, Dt G v (dv c) → Q v H
theorem ix_getK (hu : X.A.units + 100 < cLine) : IxR X (rGetK X.prog X.w kd dv M) := by
  intro value slice pins s σ H x y v u Q I rx ry h hsl
  obtain ⟨G, p, zs, k, c, rfl, hp, g, hk, hy, hc, q⟩ := h
  obtain ⟨b, rfl⟩ := kd_ref hy
  cases rx
  cases ry
  obtain ⟨z, hs, xs, rel, D⟩ := dk_there I g hp hk
  obtain ⟨ad, u, v, e1, r1, r2⟩ := (ent_get k hk rel).2 c hc
  exact PyProof.Rows.subscriptTail_builtinR (x := u) D.typeIs slot_dict_getitem.lookup (wpAny_getItem_heap (Q := fun r s' => r = u ∧ EP X pins σ Q r s') (room_k hu) (key_at I g hy) D e1 ⟨rfl, v, H, I.tok _, r1, q v r2⟩) hsl
def rSetK (P : Program) (w : World) (kd : Kd α) (dv : β → PyData) (M : List (α × β)) (c : β) : TSet := fun o i v H Q => ∃ (G : Hp), ∃ p zs k b, o = .ref p ∧ i = .ref b ∧ H p = some (dHO P w p zs) ∧ Same G H ∧ Paired (DkOk G) zs (dEnt kd dv M) ∧ Dt G i (kd.dat k) ∧ Dt G v (dv c) ∧ zs.length < sizeLine ∧
  Q (upd H p (dHO P w p (zPut zs (aGet M k).isSome (kd.nk k) b v)))
theorem set_K (hu : X.A.units + 100 < cLine) {c : β} : PSet X (rSetK X.prog X.w kd dv M c) := by
  intro pins s σ H o i v ov iv u Q I ro ri rv h
  obtain ⟨G, p, zs, k, b, rfl, rfl, hp, g, hk, hy, hc, hz, q⟩ := h
  cases ro
  cases ri
  obtain ⟨z, hs, xs, rel, D⟩ := dk_there I g hp hk
  have hl : xs.length = zs.length := (Paired.length rel).symm
  refine wpAny_setItem_heap (room_k hu) (key_at I g hy) D (fun h' D' sb => ?_) (by rw [hl]; exact z)
  have r2 := ent_put2 (k := kd.nk k) (ad := b) rel rv
  rw [ent_some k hk rel] at r2
  have hl2 : (zPut zs (aGet M k).isSome (kd.nk k) b v).length ≤ sizeLine := by
    unfold zPut
    split
    · rw [List.length_map]; exact z
    · rw [List.length_append, List.length_singleton]; exact hz
  have R := dk_made hl2 hs r2 D'
  have he : ∃ q, h'.get? p = some q := by
    obtain ⟨o, _, _, ho, _⟩ := D'
    exact ⟨o, ho⟩
  exact ⟨_, I.write (x := p) (e := p) (t' := _) (by rw [hp]; trivial) (.inl rfl) (fun b q hb z => (sb.2 b hb).trans z) he (raw_ok R), q⟩
def rLenK (P : Program) (w : World) (kvs : List (PyData × PyData)) : List V → Hp → VK → Prop := fun xs H Q => ∃ (G : Hp), ∃ p zs, xs = [.ref p] ∧ H p = some (dHO P w p zs) ∧ Same G H ∧ Paired (DkOk G) zs kvs ∧ Q (.int ((zs.length : Nat) : Int)) H
theorem call_lenK {kvs : List (PyData × PyData)} : CallR X (.builtin "len") (rLenK X.prog X.w kvs) := by
  intro pins s σ H xs us Q I r h
  obtain ⟨G, p, zs, rfl, hp, g, hk, q⟩ := h
  obtain ⟨u, rfl, rx⟩ := vals1 r
  cases rx
  obtain ⟨z, hs, xs, rel, D⟩ := dk_there I g hp hk
  have hl : zs.length = xs.length := Paired.length rel
  have hb : sizeLine = 2 ^ 24 := rfl
  refine PySem.call_len_dictH hs D (by omega) ?_
  rw [← hl]
  exact ⟨.int _, H, I.tok _, ⟨_, rfl⟩, q⟩
end

section
variable {X : Cx} {e a b c : Expr} {δ δ1 δ2 δ' : List Sl} {pos p : Pos} {r : PyData} {rest : List Stmt} {bs : List (List Stmt)} {o : Out} {α : Type} [DecidableEq α] {β : Type} {kd : Kd α} {dv : β → PyData} {M : List (α × β)} {k : α} {x : Str} {p1 : Pos}
/-- k in d, k not in d -/
theorem tD_inK {neg : Bool} (i : Nat) (hd : δ[i]? = some (.dct (dEnt kd dv M))) {σ : L2.St} {H : Hp} {Q : VK} {t : Bool} (ht : t = if neg then !(aGet M k).isSome else (aGet M k).isSome) (h : tD X.prog X.w δ (D (.bool t)) δ σ H Q) :
    tOp (rInK X.prog X.w kd dv M neg) (tD X.prog X.w δ (D (kd.dat k)) δ) (tVar i) σ H Q := by
  obtain ⟨G0, H0, G, S, q⟩ := h
  refine ⟨G0, H0, G, S, fun x G1 H1 g1 S1 rx => ?_⟩
  obtain ⟨p, zs, e1, hp, hk, _⟩ := S1.dctAt hd
  exact ⟨.ref p, e1, G1, p, zs, k, rfl, hp, S1.gh, hk, rx, q _ G1 H1 g1 S1 (ht ▸ Dt.bl _)⟩
theorem pd_inK (i : Nat) (hd : δ[i]? = some (.dct (dEnt kd dv M))) (hu : X.A.units + 100 < cLine) (ha : PED X δ a (D (kd.dat k)) δ)
    (hN : X.N[i]? = some x := by rfl) (hv : Vis X.env.scope x := by first | exact Or.inl rfl | exact Or.inr (Or.inl rfl) | exact Or.inr (Or.inr rfl)) (hdb : (x == ("__debug__" : Str)) = false := by decide) (hcd : (x == ("__classdict__" : Str)) = false := by decide) :
    PED X δ (.Compare a [.In] [.Name x p1] pos) (D (.bool (aGet M k).isSome)) δ :=
  (pe_cmpR (op_inK hu) ha (pv i hN hv hdb hcd) rfl).imp fun σ H Q h => tD_inK i hd rfl h
theorem pd_ninK (i : Nat) (hd : δ[i]? = some (.dct (dEnt kd dv M))) (hu : X.A.units + 100 < cLine) (ha : PED X δ a (D (kd.dat k)) δ)
    (hN : X.N[i]? = some x := by rfl) (hv : Vis X.env.scope x := by first | exact Or.inl rfl | exact Or.inr (Or.inl rfl) | exact Or.inr (Or.inr rfl)) (hdb : (x == ("__debug__" : Str)) = false := by decide) (hcd : (x == ("__classdict__" : Str)) = false := by decide) :
    PED X δ (.Compare a [.NotIn] [.Name x p1] pos) (D (.bool (!(aGet M k).isSome))) δ :=
  (pe_cmpR (op_notInK hu) ha (pv i hN hv hdb hcd) rfl).imp fun σ H Q h => tD_inK i hd rfl h
theorem ptd_of {t : Bool} (tt : TE) (he : PT X e (tTest tt)) (k : ∀ σ H Q, tD X.prog X.w δ (D (.bool t)) δ' σ H Q → tt σ H Q) : PTD X δ e t δ' :=
  he.imp fun σ H Q ⟨G0, H0, G, S, q⟩ => k σ H _ ⟨G0, H0, G, S, fun v G' H' g S' rv => ⟨t, dt_bl rv, q G' H' g S'⟩⟩
theorem ptd_inK (i : Nat) (hd : δ[i]? = some (.dct (dEnt kd dv M))) (hu : X.A.units + 100 < cLine) (ha : PED X δ a (D (kd.dat k)) δ)
    (hN : X.N[i]? = some x := by rfl) (hv : Vis X.env.scope x := by first | exact Or.inl rfl | exact Or.inr (Or.inl rfl) | exact Or.inr (Or.inr rfl)) (hdb : (x == ("__debug__" : Str)) = false := by decide) (hcd : (x == ("__classdict__" : Str)) = false := by decide) :
    PTD X δ (.Compare a [.In] [.Name x p1] pos) (aGet M k).isSome δ :=
  ptd_of _ (pt_cmpR (op_inK hu) ha (pv i hN hv hdb hcd) rfl) fun σ H Q h => tD_inK i hd rfl h
theorem ptd_ninK (i : Nat) (hd : δ[i]? = some (.dct (dEnt kd dv M))) (hu : X.A.units + 100 < cLine) (ha : PED X δ a (D (kd.dat k)) δ)
    (hN : X.N[i]? = some x := by rfl) (hv : Vis X.env.scope x := by first | exact Or.inl rfl | exact Or.inr (Or.inl rfl) | exact Or.inr (Or.inr rfl)) (hdb : (x == ("__debug__" : Str)) = false := by decide) (hcd : (x == ("__classdict__" : Str)) = false := by decide) :
    PTD X δ (.Compare a [.NotIn] [.Name x p1] pos) (!(aGet M k).isSome) δ :=
  ptd_of _ (pt_cmpR (op_notInK hu) ha (pv i hN hv hdb hcd) rfl) fun σ H Q h => tD_inK i hd rfl h
/-- d[k] -/
theorem pd_getK (i : Nat) (hd : δ[i]? = some (.dct (dEnt kd dv M))) (hu : X.A.units + 100 < cLine) (ha : PED X δ a (D (kd.dat k)) δ) {v : β} (hg : aGet M k = some v)
    (hN : X.N[i]? = some x := by rfl) (hv : Vis X.env.scope x := by first | exact Or.inl rfl | exact Or.inr (Or.inl rfl) | exact Or.inr (Or.inr rfl)) (hdb : (x == ("__debug__" : Str)) = false := by decide) (hcd : (x == ("__classdict__" : Str)) = false := by decide) (hs : PlainIx a := by intro _ _; rfl) :
    PED X δ (.Subscript (.Name x p1) a pos) (D (dv v)) δ :=
  (pe_ix (ix_getK (kd := kd) (dv := dv) (M := M) hu) (pv i hN hv hdb hcd) ha hs).imp fun σ H Q ⟨G0, H0, G, S, q⟩ => by
    obtain ⟨p, zs, e1, _⟩ := S.dctAt hd
    refine ⟨.ref p, e1, G0, H0, G, S, fun y G1 H1 g1 S1 ry => ?_⟩
    obtain ⟨p', zs', e1', hp, hk, _⟩ := S1.dctAt hd
    rw [e1] at e1'; cases e1'
    exact ⟨G1, p, zs', k, v, rfl, hp, S1.gh, hk, ry, hg, fun u ru => q u G1 H1 g1 S1 ru⟩
/-- d[k] = v -/
theorem pbd_putK (i : Nat) {tpos : Pos} {v : β} (he : PED X δ e (D (dv v)) δ1) (hd : δ1[i]? = some (.dct (dEnt kd dv M))) (hu : X.A.units + 100 < cLine) (ha : PED X δ1 a (D (kd.dat k)) δ1) (hz : M.length < sizeLine)
    (hr : PBD X (δ1.set i (.dct (dEnt kd dv (aPut M k v)))) (rest :: bs) o)
    (hN : X.N[i]? = some x := by rfl) (hv : Vis X.env.scope x := by first | exact Or.inl rfl | exact Or.inr (Or.inl rfl) | exact Or.inr (Or.inr rfl)) (hdb : (x == ("__debug__" : Str)) = false := by decide) (hcd : (x == ("__classdict__" : Str)) = false := by decide)
    (has : ∀ v, assign (.Subscript (.Name x p1) a tpos) X.env v = (do
      let ov ← holding [v] (eval (.Name x p1) X.env)
      let iv ← holding [v, ov] (eval a X.env)
      standAt tpos
      holding [v, ov, iv] (setItem ov iv v)
      release [v, ov, iv] []) := by intro _; rfl)
    (hs : swapsWithSole [.Subscript (.Name x p1) a tpos] e pos.line X.env = pure false := by rfl) (hw : swappedStores [.Subscript (.Name x p1) a tpos] e X.env = pure none := by rfl)
    (h1 : (assignEach [.Subscript (.Name x p1) a tpos] X.env).map (·.2) = [assign (.Subscript (.Name x p1) a tpos) X.env] := by rfl) :
    PBD X δ ((.Assign [.Subscript (.Name x p1) a tpos] e pos :: rest) :: bs) o :=
  (pb_cons (ps_asg he (pg_sub (pv i hN hv hdb hcd) ha (set_K (kd := kd) (dv := dv) (M := M) (c := v) hu) has) hs hw h1)).imp fun E σ H ⟨G0, H0, G, S, q⟩ => by
    refine ⟨G0, H0, G, S, fun u G1 H1 g1 S1 ru => ?_⟩
    obtain ⟨p, zs, e1, _⟩ := S1.dctAt hd
    refine ⟨.ref p, e1, G0, H0, G1, S1, fun y G2 H2 g2 S2 ry => ?_⟩
    obtain ⟨p', zs', e1', hp, hk, ho⟩ := S2.dctAt hd
    rw [e1] at e1'; cases e1'
    obtain ⟨b, rfl⟩ := kd_ref ry
    have hl : zs'.length = M.length := by rw [Paired.length hk]; unfold dEnt; rw [List.length_map]
    refine ⟨G2, p, zs', k, b, rfl, rfl, hp, S2.gh, hk, ry, Dt.up ru g2, by rw [hl]; exact hz, _, hr, G0, H0, G2, S2.mut hd ho ?_ rfl, q.up (same_trans g1 g2)⟩
    refine ⟨p, _, rfl, upd_same, ?_⟩
    exact ent_put1 k v hk ry (Dt.up ru g2)
/-- len(d) -/
theorem pd_lenK (i : Nat) {kvs : List (PyData × PyData)} (hm : X.mg "len" = none) (hd : δ[i]? = some (.dct kvs)) (hN : X.N[i]? = some x := by rfl) (hv : Vis X.env.scope x := by first | exact Or.inl rfl | exact Or.inr (Or.inl rfl) | exact Or.inr (Or.inr rfl))
    (hg : Gl X "len" := by rfl) (hdb : (x == ("__debug__" : Str)) = false := by decide) (hcd : (x == ("__classdict__" : Str)) = false := by decide) : PED X δ (.Call (.Name "len" p) [.Name x p1] [] pos) (D (.int ((kvs.length : Nat) : Int))) δ := by
  refine (pe_callB (call_lenK (kvs := kvs)) hg hm PySem.boot_len (pa_cons (pv i hN hv hdb hcd) pa_nil)).imp fun σ H Q ⟨G0, H0, G, S, q⟩ => ?_
  obtain ⟨p, zs, e1, hp, hk, _⟩ := S.dctAt hd
  exact ⟨.ref p, e1, G, p, zs, rfl, hp, S.gh, hk, by rw [Paired.length hk]; exact q _ G H (same_refl _) S (Dt.int _)⟩
end

/-! ### new dicts -/
def tDNewD (P : Program) (w : World) : TE := fun _ H Q => ∀ p, H p = none → Q (.ref p) (upd H p (dHO P w p []))
theorem raw_new {P : Program} {w : World} (h : Heap) (hb : sysModules < h.objs.size) : DictRaw3 P w (h.push { cls := .type "dict", data := .dict #[] }) h.objs.size [] :=
  dk_made (xs := []) (Nat.zero_le _) (beq_eq_false_iff_ne.mpr (Ne.symm (Nat.ne_of_lt hb))) .nil (Heap.DictOfH.new h)
section
variable {X : Cx} {e a b c : Expr} {δ δ1 δ2 δ' : List Sl} {pos p : Pos} {rest : List Stmt} {bs : List (List Stmt)} {o : Out} {α : Type} [DecidableEq α] {β : Type} {kd : Kd α} {dv : β → PyData} {M : List (α × β)} {k : α} {x : Str} {p1 : Pos}
theorem pe_dnewD : PE X (.Dict [] [] pos) (tDNewD X.prog X.w) := ⟨fun pins s σ H Q I h =>
  wpAny_Dict_empty ⟨.ref s.heap.objs.size, _, I.laid (a := s.heap.objs.size) (o := dHO X.prog X.w s.heap.objs.size []) (t' := s.toks) (fun _ _ q => Heap.get?_push_of_some _ q) (Nat.le_refl _) (raw_ok (raw_new s.heap I.big)), rfl, h _ (I.hok.fresh (Nat.le_refl _))⟩⟩
/-- name = {} -/
theorem pbd_newK (i : Nat) {pos' dpos : Pos} (hN : X.N.Nodup) (hr : PBD X (δ.set i (.dct [])) (rest :: bs) o) (hi : X.N[i]? = some x := by rfl) (hx : Loc X.env.scope x := by first | exact Or.inl rfl | exact Or.inr rfl)
    (hs : swapsWith (.Dict [] [] dpos) (some (.Name x pos')) pos.line X.env = pure false := by rfl) (hf : X.fn x = true ∨ X.env.scope.names.lookup x = some .local := by first | exact .inl rfl | exact .inr rfl | assumption) :
    PBD X δ ((.Assign [.Name x pos'] (.Dict [] [] dpos) pos :: rest) :: bs) o :=
  (pb_cons (ps_set hN hi hx pe_dnewD hs hf)).imp fun E σ H ⟨G0, H0, G, S, q⟩ => fun l hl => ⟨_, hr, G0, H0, G, S.storeNew hl ⟨l, [], rfl, upd_same, .nil⟩ rfl, q⟩
end
end Ct

-- DL11
set_option Elab.async false
set_option linter.all false
set_option maxRecDepth 100000
set_option maxHeartbeats 1000000
/-! DL11: a dict by a display of one pair, a dict of pairs. -/
namespace Ct
open PySem PySem.Spec L2

section
variable {P : Program} {w : World} {G G' H H' G0 H0 : Hp} {δ : List Sl} {σ : L2.St}
/-- a slot takes an object that is none of ours yet -/
theorem StOk.storeOff {i : Nat} {p : Addr} {s : Sl} (S : StOk P w G0 H0 δ σ G H) (f : Off δ σ G H0 p) (ok : SlOk P w G H s (some (.ref p))) (ho : ownAt s (some (.ref p)) = some p) :
    StOk P w G0 H0 (δ.set i s) (σ.set i (some (.ref p))) G H := by
  have pos : ∀ t, (δ.set i s)[i]? = some t → t = s ∧ (σ.set i (some (.ref p)))[i]?.join = some (.ref p) := fun t e => by
    have hlt : i < δ.length := by
      have := (List.getElem?_eq_some_iff.mp e).1
      rw [List.length_set] at this; exact this
    rw [List.getElem?_set_self hlt] at e; cases e
    exact ⟨rfl, join_set_self (Nat.lt_of_lt_of_le hlt S.len)⟩
  refine ⟨S.gg, S.hh, S.gh, S.sep, by rw [List.length_set, List.length_set]; exact S.len, fun j t e => ?_, fun j t q e z => ?_, fun j l t u q hjl e1 e2 z => ?_⟩
  · by_cases hj : i = j
    · subst hj
      obtain ⟨rfl, e2⟩ := pos t e
      rw [e2]; exact ok
    · rw [List.getElem?_set_ne hj] at e
      rw [join_set_ne hj]; exact S.sl j t e
  · by_cases hj : i = j
    · subst hj
      obtain ⟨rfl, e2⟩ := pos t e
      rw [e2, ho] at z; cases z
      exact ⟨f.h, f.g⟩
    · rw [List.getElem?_set_ne hj] at e
      rw [join_set_ne hj] at z; exact S.own j t q e z
  · by_cases hj : i = j
    · subst hj
      obtain ⟨rfl, e3⟩ := pos t e1
      rw [e3, ho] at z; cases z
      rw [List.getElem?_set_ne hjl] at e2
      rw [join_set_ne hjl]
      exact f.own l u e2
    · rw [List.getElem?_set_ne hj] at e1
      rw [join_set_ne hj] at z
      by_cases hl : i = l
      · subst hl
        obtain ⟨rfl, e3⟩ := pos u e2
        rw [e3, ho]
        intro q'
        cases q'
        exact f.own j t e1 z
      · rw [List.getElem?_set_ne hl] at e2
        rw [join_set_ne hl]; exact S.dis j l t u q hjl e1 e2 z
end

/-- a new dict of one's own -/
def tDND (P : Program) (w : World) (δ : List Sl) (kvs : List (PyData × PyData)) (δ' : List Sl) : TE := fun σ H Q => ∃ G0 H0 G, StOk P w G0 H0 δ σ G H ∧ ∀ p zs G' H', Same G G' → StOk P w G0 H0 δ' σ G' H' → Off δ' σ G' H0 p → H' p = some (dHO P w p zs) → Paired (DkOk G') zs kvs → Q (.ref p) H'
abbrev PKD (X : Cx) (δ : List Sl) (e : Expr) (kvs : List (PyData × PyData)) (δ' : List Sl) : Prop := PE X e (tDND X.prog X.w δ kvs δ')
section
variable {X : Cx} {e a b c : Expr} {δ δ1 δ2 δ' : List Sl} {pos p : Pos} {rest : List Stmt} {bs : List (List Stmt)} {o : Out} {α : Type} [DecidableEq α] {β : Type} {kd : Kd α} {dv : β → PyData} {M : List (α × β)} {k : α} {v : β} {x : Str} {kvs : List (PyData × PyData)}
/-- name = a new dict -/
theorem pbd_ownK (i : Nat) {pos' : Pos} (hN : X.N.Nodup) (h : PKD X δ e kvs δ1) (hr : PBD X (δ1.set i (.dct kvs)) (rest :: bs) o) (hi : X.N[i]? = some x := by rfl) (hx : Loc X.env.scope x := by first | exact Or.inl rfl | exact Or.inr rfl)
    (hs : swapsWith e (some (.Name x pos')) pos.line X.env = pure false := by rfl) (hf : X.fn x = true ∨ X.env.scope.names.lookup x = some .local := by first | exact .inl rfl | exact .inr rfl | assumption) :
    PBD X δ ((.Assign [.Name x pos'] e pos :: rest) :: bs) o :=
  (pb_cons (ps_set hN hi hx h hs hf)).imp fun E σ H ⟨G0, H0, G, S, q⟩ => ⟨G0, H0, G, S, fun l zs G' H' g S' f hl hk => ⟨_, hr, G0, H0, G', S'.storeOff f ⟨l, zs, rfl, hl, hk⟩ rfl, q.up g⟩⟩
/-- {a: b} -/
theorem pk_one (hu : X.A.units + 100 < cLine) (ha : PED X δ a (D (kd.dat k)) δ) (hb : PED X δ b (D (dv v)) δ)
    (hsh : (evalEachOpt [some a] X.env).zip ((evalEach [b] X.env).map fun v => do let x ← v; standAt pos; pure x) = [(some (eval a X.env), do let x ← eval b X.env; standAt pos; pure x)] := by rfl) :
    PKD X δ (.Dict [some a] [b] pos) (dEnt kd dv [(k, v)]) δ := by
  refine ⟨fun pins s σ H Q I ⟨G0, H0, G, S, q⟩ => ?_⟩
  have hA : H s.heap.objs.size = none := I.hok.fresh (Nat.le_refl _)
  have f0 := S.offNew hA
  have n0 : G0 s.heap.objs.size = none := same_none S.gg f0.g
  have I0 := I.laid (a := s.heap.objs.size) (o := dHO X.prog X.w s.heap.objs.size []) (t' := s.toks) (fun _ _ q => Heap.get?_push_of_some { cls := .type "dict", data := .dict #[] } q) (Nat.le_refl _) (raw_ok (raw_new s.heap I.big))
  have S0 : StOk X.prog X.w G0 (upd H0 s.heap.objs.size (dHO X.prog X.w s.heap.objs.size [])) δ σ G (upd H s.heap.objs.size (dHO X.prog X.w s.heap.objs.size [])) := (S.other f0).addB f0 upd_same
  have hr : (KN X).room X.A := by
    show X.A.units + 8 < cLine
    omega
  rw [arm_eval_Dict, hsh]
  rw [show ([(some (eval a X.env), do let x ← eval b X.env; standAt pos; pure x)] : List (Option (Sem Value) × Sem Value)) = [(eval a X.env, do let x ← eval b X.env; standAt pos; pure x)].map (fun p => (some p.1, p.2)) from rfl]
  rw [dictDisplay_pairs _ (by simp) (by show 1 < 17; decide)]
  refine wpAny_bind (wpAny_standAt (wpAny_bind (wpAny_subDictH (knd := KN X) (Q := fun d s' => wpAny (model X.prog X.w) X.A (pure (Value.ref d)) (EP X pins σ Q) X.xe s') hr (by show 1 ≤ 15; decide) ?_)))
  show wpAny _ _ (evalPairs [_]) _ _ _
  rw [evalPairs]
  refine wpAny_bind (thn (ha.run pins _ σ _ (fun u H1 => ∃ G1, Same G G1 ∧ StOk X.prog X.w G0 (upd H0 s.heap.objs.size (dHO X.prog X.w s.heap.objs.size [])) δ σ G1 H1 ∧ Dt G1 u (kd.dat k)) I0 ⟨G0, _, G, S0, fun u G1 H1 g1 S1 r => ⟨G1, g1, S1, r⟩⟩) fun kv s1 ⟨u, H1, I1, ru, G1, g1, S1, r1⟩ => ?_)
  refine wpAny_bind (wpAny_holding (wpAny_bind (thn (hb.run pins _ σ _ (fun u H2 => ∃ G2, Same G1 G2 ∧ StOk X.prog X.w G0 (upd H0 s.heap.objs.size (dHO X.prog X.w s.heap.objs.size [])) δ σ G2 H2 ∧ Dt G2 u (dv v)) I1 ⟨G0, _, G1, S1, fun u G2 H2 g2 S2 r => ⟨G2, g2, S2, r⟩⟩) fun vv s2 ⟨u2, H2, I2, ru2, G2, g2, S2, r2⟩ => wpAny_bind (wpAny_standAt (wpAny_pure ?_)))))
  refine wpAny_bind (wpAny_holding ?_)
  rw [evalPairs]
  refine wpAny_pure (wpAny_pure ?_)
  obtain ⟨bk, rfl⟩ := kd_ref r1
  cases ru
  obtain ⟨S3, f3, h3⟩ := S2.delB f0.h n0
  obtain ⟨z, hs, xs, rel, D0⟩ := dk_there (kvs := []) I2 S3.gh h3 .nil
  cases rel
  refine ⟨[(kd.nk k, bk, vv)], ⟨rfl, rfl, key_at I2 S3.gh (Dt.up r1 g2), trivial⟩, D0, fun h' tk D' sb => wpAny_pure ?_⟩
  have R : DictRaw3 X.prog X.w h' s.heap.objs.size [(kd.nk k, bk, u2)] := dk_made (by show 1 ≤ sizeLine; decide +kernel) hs (.cons ⟨rfl, rfl, ru2⟩ .nil) D'
  have he : ∃ q, h'.get? s.heap.objs.size = some q := by
    obtain ⟨o, _, _, ho, _⟩ := D'
    exact ⟨o, ho⟩
  refine ⟨.ref _, _, I2.write (x := s.heap.objs.size) (e := s.heap.objs.size) (t' := tk) (by rw [h3]; trivial) (.inl rfl) (fun b q hb z => (sb.2 b hb).trans z) he (raw_ok R), rfl, ?_⟩
  exact q _ _ G2 _ (same_trans g1 g2) (S3.other f3) f3 upd_same (.cons ⟨kd.ok k, kd.dep k, Dt.up r1 g2, r2⟩ .nil)
end

/-! ### dict(pairs) -/
section
variable {α : Type} [DecidableEq α] {β : Type} {kd : Kd α} {dv : β → PyData} {G : Hp}
def aPuts (M : List (α × β)) (es : List (α × β)) : List (α × β) := es.foldl (fun m e => aPut m e.1 e.2) M
theorem ents_put : ∀ (es : List (α × β)) {zs : List (NestedKey × Addr × V)} {ps : List (NestedKey × Addr × Value)} (M : List (α × β)) (za : List (NestedKey × Addr × V)) (xa : List (NestedKey × Addr × Value)), Paired RelE zs ps → Paired (DkOk G) zs (dEnt kd dv es) → Paired RelE za xa → Paired (DkOk G) za (dEnt kd dv M) →
    ∃ zb, Paired RelE zb (storedAllH xa ps) ∧ Paired (DkOk G) zb (dEnt kd dv (aPuts M es)) ∧ zb.length ≤ za.length + es.length
  | [], _, _, M, za, xa, h1, h2, h3, h4 => by
    cases h2; cases h1
    exact ⟨za, h3, h4, Nat.le_refl _⟩
  | e :: es, _, _, M, za, xa, h1, h2, h3, h4 => by
    cases h2 with
    | cons k t =>
      cases h1 with
      | cons q t' =>
        rename_i z zs x ps
        obtain ⟨k1, k2, k3, k4⟩ := k
        obtain ⟨q1, q2, q3⟩ := q
        have ek : z.1 = kd.nk e.1 := by rw [kd.ok] at k1; exact (Option.some.inj k1).symm
        have r1 := ent_put1 e.1 e.2 h4 k3 k4
        have r2 := ent_put2 (k := kd.nk e.1) (ad := z.2.1) h3 q3
        rw [ent_some e.1 h4 h3] at r2
        obtain ⟨zb, b1, b2, b3⟩ := ents_put es (aPut M e.1 e.2) _ _ t' t r2 r1
        refine ⟨zb, ?_, b2, ?_⟩
        · have : storedAllH xa (x :: ps) = storedAllH (storedH xa (kd.nk e.1) z.2.1 x.2.2) ps := by
            show storedAllH (storedH xa x.1 x.2.1 x.2.2) ps = _
            rw [← q1, ek, ← q2]
          rw [this]; exact b1
        · have : (zPut za (aGet M e.1).isSome (kd.nk e.1) z.2.1 z.2.2).length ≤ za.length + 1 := by
            unfold zPut
            split
            · rw [List.length_map]; omega
            · rw [List.length_append, List.length_singleton]; omega
          rw [List.length_cons]; omega
variable {X : Cx} {pins : List (Addr × Obj)} {σ : L2.St} {H : Hp} {s : Shared}
theorem kpairs_of (I : Inv X pins σ H s) (g : Same G H) : ∀ (es : List (α × β)) (xs : List V) (its : List Value), DtAll G xs (es.map fun e => .tuple [kd.dat e.1, dv e.2]) → Vals xs its →
    ∃ (ts : List Addr) (ps : List (NestedKey × Addr × Value)) (zs : List (NestedKey × Addr × V)), its = ts.map .ref ∧ ts.length = es.length ∧ ps.length = es.length ∧ Paired RelE zs ps ∧ Paired (DkOk G) zs (dEnt kd dv es) ∧
      (∀ (j : Nat) (t : Addr) (p : NestedKey × Addr × Value), ts[j]? = some t → ps[j]? = some p → s.heap.IsTuple t #[.ref p.2.1, p.2.2]) ∧ ∀ x ∈ ps, (KN X).is s.heap x.1 x.2.1
  | [], _, _, h, r => by
    cases h; cases r
    exact ⟨[], [], [], rfl, rfl, rfl, .nil, .nil, fun j t p h => by simp at h, fun x h => by cases h⟩
  | e :: es, _, _, h, r => by
    cases h with
    | cons h1 h2 =>
      cases r with
      | cons r1 r2 =>
        obtain ⟨ts, ps, zs, e1, e2, e3, e4, e5, e6, e7⟩ := kpairs_of I g es _ _ h2 r2
        obtain ⟨T, us, rfl, t1, t2⟩ := dt_tup h1
        cases r1
        cases t2 with
        | @cons kv _ _ _ d1 t2 =>
          cases t2 with
          | @cons vv _ _ _ d2 t3 =>
            cases t3
            obtain ⟨bk, rfl⟩ := kd_ref d1
            obtain ⟨its', rv, ht, _⟩ := I.tuple (.of (g _ _ t1))
            obtain ⟨w1, w2, rfl, q1, q2⟩ := rv.two
            cases q1
            refine ⟨T :: ts, (kd.nk e.1, bk, w2) :: ps, (kd.nk e.1, bk, vv) :: zs, by rw [e1]; rfl, by rw [List.length_cons, List.length_cons, e2], by rw [List.length_cons, List.length_cons, e3], .cons ⟨rfl, rfl, q2⟩ e4, .cons ⟨kd.ok _, kd.dep _, d1, d2⟩ e5, fun j t p hj hp => ?_, fun x hx => ?_⟩
            · cases j with
              | zero => cases hj; cases hp; exact ht
              | succ j => exact e6 j t p (by simpa using hj) (by simpa using hp)
            · rcases List.mem_cons.mp hx with rfl | hx
              · exact key_at I g d1
              · exact e7 x hx
def rDictP (P : Program) (w : World) (kd : Kd α) (dv : β → PyData) (es : List (α × β)) : List V → Hp → VK → Prop := fun xs H Q => ∃ (G : Hp) (L : Addr), xs = [.ref L] ∧ Same G H ∧ Dt G (.ref L) (.list (es.map fun e => .tuple [kd.dat e.1, dv e.2])) ∧ es.length ≤ sizeLine ∧
  ∀ q zs, H q = none → Paired (DkOk G) zs (dEnt kd dv (aPuts [] es)) → Q (.ref q) (upd H q (dHO P w q zs))
theorem call_dictP {es : List (α × β)} (hc : X.calm = true) (hu : X.A.units + 100 < cLine) : CallR X (.type "dict") (rDictP X.prog X.w kd dv es) := by
  intro pins s σ H xs us Q I r h
  obtain ⟨G, L, rfl, g, hd, hz, q⟩ := h
  obtain ⟨u, rfl, rx⟩ := vals1 r
  cases rx
  cases hd with
  | lst t1 t2 =>
    obtain ⟨its, rv, pl, _⟩ := I.list (.of (g _ _ t1))
    obtain ⟨ts, ps, zs, e1, e2, e3, e4, e5, e6, e7⟩ := kpairs_of I g es _ _ t2 rv
    subst e1
    have P := PairArg.list (prog := X.prog) (w := X.w) L (ts.map Value.ref).toArray (fun j => ts.getD j 0) (ps.map fun p => (Value.ref p.2.1, p.2.2))
    have hr : (KN X).room X.A.in1.in1 := by
      show X.A.units + 1 + 1 + 8 < cLine
      omega
    have hl : (ps.map fun p => (Value.ref p.2.1, p.2.2)).length = es.length := by rw [List.length_map, e3]
    refine call_dict_pairsH (knd := KN X) (ps := ps) P (I.ok.hd hc) hr ⟨?_, ?_, fun j k v hj => ?_⟩ ⟨by rw [List.length_map], fun i key v hi => ?_⟩ (fun h' hk x hx => ?_) (by rw [hl]; exact hz) fun h' tk D' hk => ?_
    · obtain ⟨o, n, ho, hc, hdd, hdat⟩ := pl
      exact ⟨o, n, ho, hc, hdd, hdat⟩
    · rw [hl, ← e2]; simp
    · rw [List.getElem?_map] at hj
      obtain ⟨p, hp, ep⟩ := Option.map_eq_some_iff.mp hj
      cases ep
      have hlt : j < ts.length := by rw [e2, ← e3]; exact (List.getElem?_eq_some_iff.mp hp).1
      have et : ts[j]? = some ts[j] := List.getElem?_eq_getElem hlt
      have eg : ts.getD j 0 = ts[j] := by rw [List.getD_eq_getElem?_getD, et]; rfl
      refine ⟨by dsimp only; rw [eg]; simp [et], ?_⟩
      dsimp only
      rw [eg]
      exact .inl (e6 j _ p et hp)
    · have hi' : (ps.map fun p => (Value.ref p.2.1, p.2.2))[i]? = some (key, v) := hi
      rw [List.getElem?_map] at hi'
      obtain ⟨p, hp, ep⟩ := Option.map_eq_some_iff.mp hi'
      cases ep
      exact ⟨p.1, p.2.1, hp, rfl⟩
    · refine nestedKind_stays.stays (fun b o vs n hb _ => hk b o (Nat.ne_of_lt (Heap.lt_size hb)) (by simp) hb) (e7 x hx)
    · obtain ⟨zb, b1, b2, b3⟩ := ents_put (kd := kd) (dv := dv) (G := G) es [] [] [] e4 e5 .nil .nil
      have hb : (s.heap.objs.size == sysModules) = false := beq_eq_false_iff_ne.mpr (Ne.symm (Nat.ne_of_lt I.big))
      have R : DictRaw3 X.prog X.w h' s.heap.objs.size zb := dk_made (Nat.le_trans b3 (by simpa using hz)) hb b1 D'
      exact ⟨.ref _, _, I.laid (a := s.heap.objs.size) (t' := tk) (fun b o e => hk b o (by simp) e) (Nat.le_refl _) (raw_ok R), rfl, q _ zb (I.hok.fresh (Nat.le_refl _)) b2⟩
end
section
variable {X : Cx} {a : Expr} {δ δ1 : List Sl} {pos p : Pos} {α : Type} [DecidableEq α] {β : Type} {kd : Kd α} {dv : β → PyData} {es : List (α × β)}
theorem pk_pairs (hc : X.calm = true) (hm : X.mg "dict" = none) (hu : X.A.units + 100 < cLine) (ha : PED X δ a (D (.list (es.map fun e => .tuple [kd.dat e.1, dv e.2]))) δ1) (hz : es.length ≤ sizeLine) (hg : Gl X "dict" := by rfl)
    (he : starEach [a] X.env = (false, eval a X.env) :: starEach [] X.env := by rfl) : PKD X δ (.Call (.Name "dict" p) [a] [] pos) (dEnt kd dv (aPuts [] es)) δ1 := by
  refine (pe_callTy (call_dictP (kd := kd) (dv := dv) (es := es) hc hu) hg hm (by decide +kernel) (pad_cons ha pad_nil he) (he := he)).imp fun σ H Q ⟨G0, H0, G, S, q⟩ => ⟨G0, H0, G, S, fun vs G1 H1 g1 S1 rvs => ?_⟩
  obtain ⟨v, rfl, rv⟩ := vsok1 rvs
  obtain ⟨L, xs, rfl, h1, h2⟩ := dt_lst rv
  refine ⟨G1, L, rfl, S1.gh, Dt.lst h1 h2, hz, fun l zs hl hk => ?_⟩
  have f := S1.offNew hl
  exact q l zs G1 _ g1 (S1.other f) f upd_same hk
end
end Ct

-- DL12
set_option Elab.async false
set_option linter.all false
set_option maxRecDepth 100000
set_option maxHeartbeats 1000000
/-! DL12: methods of texts and lists. -/
namespace Ct
open PySem PySem.Spec L2
section
variable {X : Cx} {a b : Expr} {δ δ1 δ2 : List Sl} {apos pos : Pos} {d1 d2 r : PyData}
/-- what a text's method tells of one argument -/
theorem tD_m1 {rr : V → List V → Hp → VK → Prop} {σ : L2.St} {H : Hp} {Q : VK} {z : Str} (k : ∀ G H (y : V) (Q : VK), Same G H → VOk G y (D d2) → (∀ v G' H', Ext G H G' H' → VOk G' v (D r) → Q v H') → rr (.str z) [y] H Q)
    (h : tD X.prog X.w δ (D r) δ2 σ H Q) : tM1 rr (tD X.prog X.w δ (D (.str z)) δ1) (tD X.prog X.w δ1 (D d2) δ2) σ H Q := by
  obtain ⟨G0, H0, G, S, q⟩ := h
  refine ⟨G0, H0, G, S, fun x G1 H1 g1 S1 rx => ?_⟩
  cases dt_str rx
  exact ⟨⟨z, rfl⟩, G0, H0, G1, S1, fun y G2 H2 g2 S2 ry => k G2 H2 y Q S2.gh ry fun v G3 H3 e3 rv => q v G3 H3 (same_trans g1 (same_trans g2 e3.gg)) (S2.ext e3) rv⟩
/-- sep.join(a list of texts) -/
theorem pd_join {z : Str} {ys : List Str} (ha : PED X δ a (D (.str z)) δ1) (hb : PED X δ1 b (D (.list (ys.map .str))) δ2) (hz : (ys.map (·.length)).sum + ys.length * z.length ≤ 16777216)
    (hs : starEach [b] X.env = [(false, eval b X.env)] := by rfl) (hbase : attributeBase a "join" X.env (eval a X.env) = eval a X.env := by rfl) (hline : (apos.endLine == pos.line) = true := by rfl) :
    PED X δ (.Call (.Attribute a "join" apos) [b] [] pos) (D (.str (Txt.join z ys))) δ2 :=
  (pe_join ha hb hs hbase hline).imp fun σ H Q h => tD_m1 (fun G H y Q g ry q => by
    obtain ⟨p, xs, rfl, h1, h2⟩ := dt_lst ry
    have e := strs_dt h2
    subst e
    exact ⟨z, p, ys, rfl, rfl, .inl (.of (g _ _ h1)), hz, Ext.here g q (Dt.str _)⟩) h
/-- text.split(sep) -/
theorem pd_split {z y : Str} (ha : PED X δ a (D (.str z)) δ1) (hb : PED X δ1 b (D (.str y)) δ2) (hy : (y.length == 0) = false) (hz : z.length + 2 ≤ sizeLine)
    (hs : starEach [b] X.env = [(false, eval b X.env)] := by rfl) (hbase : attributeBase a "split" X.env (eval a X.env) = eval a X.env := by rfl) (hline : (apos.endLine == pos.line) = true := by rfl) :
    PED X δ (.Call (.Attribute a "split" apos) [b] [] pos) (D (.list ((Txt.split z y).map .str))) δ2 :=
  (pe_split ha hb hs hbase hline).imp fun σ H Q h => tD_m1 (fun G H u Q g ru q => by
    cases dt_str ru
    exact ⟨z, y, rfl, rfl, hy, hz, fun p hp => Ext.lst g q (dt_strs _) p hp⟩) h
/-- text.partition(sep) -/
theorem pd_partition {z y : Str} (ha : PED X δ a (D (.str z)) δ1) (hb : PED X δ1 b (D (.str y)) δ2) (hy : (y.length == 0) = false) (hz : z.length ≤ sizeLine)
    (hs : starEach [b] X.env = [(false, eval b X.env)] := by rfl) (hbase : attributeBase a "partition" X.env (eval a X.env) = eval a X.env := by rfl) (hline : (apos.endLine == pos.line) = true := by rfl) :
    PED X δ (.Call (.Attribute a "partition" apos) [b] [] pos) (D (.tuple [.str (Txt.partition z y).1, .str (Txt.partition z y).2.1, .str (Txt.partition z y).2.2])) δ2 :=
  (pe_partition ha hb hs hbase hline).imp fun σ H Q h => tD_m1 (fun G H u Q g ru q => by
    cases dt_str ru
    exact ⟨z, y, rfl, rfl, hy, hz, fun p hp => Ext.tup g q (.cons (.str _) (.cons (.str _) (.cons (.str _) .nil))) p hp⟩) h
/-- what a built-in type's method tells of one argument -/
theorem tD_bm {T : String} {rr : V → List V → Hp → VK → Prop} {σ : L2.St} {H : Hp} {Q : VK} (ty : ∀ G H x, Same G H → VOk G x (D d1) → tyV X.K T x H) (k : ∀ G H (x y : V) (Q : VK), Same G H → VOk G x (D d1) → VOk G y (D d2) → (∀ v G' H', Ext G H G' H' → VOk G' v (D r) → Q v H') → rr x [y] H Q)
    (h : tD X.prog X.w δ (D r) δ2 σ H Q) : tBM X.K T rr (tD X.prog X.w δ (D d1) δ1) (tDA X.prog X.w δ1 [D d2] δ2) σ H Q := by
  obtain ⟨G0, H0, G, S, q⟩ := h
  refine ⟨G0, H0, G, S, fun x G1 H1 g1 S1 rx => ⟨ty G1 H1 x S1.gh rx, G0, H0, G1, S1, fun ys G2 H2 g2 S2 ry => ?_⟩⟩
  obtain ⟨y, rfl, ry1⟩ := vsok1 ry
  exact k G2 H2 x y Q S2.gh (VOk.up rx g2) ry1 fun v G3 H3 e3 rv => q v G3 H3 (same_trans g1 (same_trans g2 e3.gg)) (S2.ext e3) rv
/-- text.count(part) -/
theorem pd_countS {z y : Str} (ha : PED X δ a (D (.str z)) δ1) (hb : PED X δ1 b (D (.str y)) δ2)
    (hbase : attributeBase a "count" X.env (eval a X.env) = eval a X.env := by rfl)
    (hfew : ((backTo pos (starEach [b] X.env)).all (fun x => !x.1) && (backToKw pos (keywordEach [] X.env)).all (fun x => x.1.isSome)
      && decide (([b] : List Expr).length + ([] : List Keyword).length + (if ([] : List Keyword).isEmpty then 0 else 1) < 30)) = true := by rfl)
    (hline : (apos.endLine == pos.line) = true := by rfl) (hs : starEach [b] X.env = (false, eval b X.env) :: starEach [] X.env := by rfl) (hplain : (backTo pos (starEach [] X.env)).any (·.1) = false := by rfl) :
    PED X δ (.Call (.Attribute a "count" apos) [b] [] pos) (D (.int (Txt.count z y))) δ2 :=
  (pe_bm PySem.F.plainAttrs_str PySem.F.slot_str_count PySem.F.type_str_count mt_count ha (pad_cons hb pad_nil hs) hbase hfew hline hs hplain).imp fun σ H Q h =>
    tD_bm (fun G H x g rx => by cases dt_str rx; rfl) (fun G H x u Q g rx ru q => by
      cases dt_str rx
      cases dt_str ru
      exact ⟨z, y, rfl, rfl, Ext.here g q (Dt.int _)⟩) h
/-- ints.count(one) -/
theorem pd_countI {is : List Int} {i : Int} (ha : PED X δ a (D (.list (is.map .int))) δ1) (hb : PED X δ1 b (D (.int i)) δ2)
    (hbase : attributeBase a "count" X.env (eval a X.env) = eval a X.env := by rfl)
    (hfew : ((backTo pos (starEach [b] X.env)).all (fun x => !x.1) && (backToKw pos (keywordEach [] X.env)).all (fun x => x.1.isSome)
      && decide (([b] : List Expr).length + ([] : List Keyword).length + (if ([] : List Keyword).isEmpty then 0 else 1) < 30)) = true := by rfl)
    (hline : (apos.endLine == pos.line) = true := by rfl) (hs : starEach [b] X.env = (false, eval b X.env) :: starEach [] X.env := by rfl) (hplain : (backTo pos (starEach [] X.env)).any (·.1) = false := by rfl) :
    PED X δ (.Call (.Attribute a "count" apos) [b] [] pos) (D (.int ((is.count i : Nat) : Int))) δ2 :=
  (pe_bm PySem.F.plainAttrs_list PySem.F.slot_list_count PySem.F.type_list_count mt_lcount ha (pad_cons hb pad_nil hs) hbase hfew hline hs hplain).imp fun σ H Q h =>
    tD_bm (fun G H x g rx => by
      obtain ⟨p, xs, rfl, h1, h2⟩ := dt_lst rx
      exact .inl ⟨rfl, _, .of (g _ _ h1)⟩) (fun G H x u Q g rx ru q => by
      obtain ⟨p, xs, rfl, h1, h2⟩ := dt_lst rx
      have e := ints_dt h2
      subst e
      exact ⟨p, is, i, rfl, by rw [dt_int ru], .of (g _ _ h1), Ext.here g q (Dt.int _)⟩) h
/-- text * 0, text * 1 -/
def rMulS : R2 := fun x y H Q => ∃ z k, x = .str z ∧ y = .int (if k = true then 1 else 0) ∧ Q (.str (if k = true then z else Str.empty)) H
theorem op_mulS : OpR X (binaryOp .Mult) rMulS := by
  intro pins s σ H x y v u Q I rx ry h
  obtain ⟨z, k, rfl, rfl, q⟩ := h
  obtain ⟨t, rfl⟩ := rx
  obtain ⟨t2, rfl⟩ := ry
  cases k with
  | false => exact PySem.P.mul_str_none (by decide) (by decide) ⟨.str Str.empty, H, I.tok _, ⟨_, rfl⟩, q⟩
  | true =>
    refine PySem.P.mul_str (by decide +kernel) (fun _ h2 => ?_) (fun _ h2 => ?_) ?_
    · simp at h2
    · simp at h2
    · rw [if_neg (by decide), if_pos (by simp)]
      exact ⟨.str z, H, I, ⟨_, rfl⟩, q⟩
theorem pd_mulS {z : Str} {k : Bool} (ha : PED X δ a (D (.str z)) δ1) (hb : PED X δ1 b (D (.int (if k = true then 1 else 0))) δ2) : PED X δ (.BinOp a .Mult b pos) (D (.str (if k = true then z else Str.empty))) δ2 :=
  (pe_op op_mulS ha hb).imp fun σ H Q h => tD_op (fun G H x y Q g rx ry q => ⟨z, k, dt_str rx, dt_int ry, Ext.here g q (Dt.str _)⟩) h
end
end Ct

-- M1
set_option Elab.async false
set_option linter.all false
set_option maxRecDepth 100000
set_option maxHeartbeats 1000000
/-! M1: trains, stands, pushes: plain mathematics and their data. -/
namespace Ct
open PySem

/-! ### data that may be compared -/
def Lay (d : PyData) (n : Nat) : Prop := d.canLay0 = true ∧ d.depth ≤ n
theorem Lay.shp {d : PyData} {n : Nat} (h : Lay d n) (hn : n ≤ 64 := by decide) : SeqAt.shaped d = true := by
  unfold SeqAt.shaped
  rw [h.1, Bool.true_and]
  exact decide_eq_true (Nat.le_trans h.2 hn)
theorem Lay.mono {d : PyData} {n m : Nat} (h : Lay d n) (k : n ≤ m) : Lay d m := ⟨h.1, Nat.le_trans h.2 k⟩
theorem Lay.int {i : Int} {n : Nat} : Lay (.int i) n := ⟨by simp [PyData.canLay0], by simp [PyData.depth]⟩
theorem Lay.none {n : Nat} : Lay .none n := ⟨by simp [PyData.canLay0], by simp [PyData.depth]⟩
theorem Lay.bool {b : Bool} {n : Nat} : Lay (.bool b) n := ⟨by simp [PyData.canLay0], by simp [PyData.depth]⟩
theorem Lay.str {x : Str} {n : Nat} (h : PyData.strOk x = true) : Lay (.str x) n := ⟨by simp [PyData.canLay0, h], by simp [PyData.depth]⟩
theorem layAll : ∀ {ds : List PyData} {n : Nat}, (∀ d ∈ ds, Lay d n) → PyData.canLayAll0 ds = true ∧ PyData.depthAll ds ≤ n
  | [], n, _ => ⟨by simp [PyData.canLayAll0], by simp [PyData.depthAll]⟩
  | d :: ds, n, h => by
    obtain ⟨h1, h2⟩ := layAll (ds := ds) (n := n) fun e he => h e (List.mem_cons_of_mem _ he)
    obtain ⟨h3, h4⟩ := h d List.mem_cons_self
    exact ⟨by simp [PyData.canLayAll0, h1, h3], by simp only [PyData.depthAll]; omega⟩
theorem Lay.tuple {ds : List PyData} {n : Nat} (h : ∀ d ∈ ds, Lay d n) : Lay (.tuple ds) (n + 1) := by
  obtain ⟨h1, h2⟩ := layAll h
  exact ⟨by simpa [PyData.canLay0] using h1, by simp only [PyData.depth]; omega⟩
theorem Lay.list {ds : List PyData} {n : Nat} (h : ∀ d ∈ ds, Lay d n) : Lay (.list ds) (n + 1) := by
  obtain ⟨h1, h2⟩ := layAll h
  exact ⟨by simpa [PyData.canLay0] using h1, by simp only [PyData.depth]; omega⟩
theorem Lay.ints {is : List Int} {n : Nat} : ∀ d ∈ is.map PyData.int, Lay d n := fun d hd => by
  obtain ⟨i, _, rfl⟩ := List.mem_map.mp hd
  exact .int

/-! ### equality of data -/
theorem eqvAll_map {α : Type} {f g : α → PyData} {xs ys : List α} (h : ∀ x ∈ xs, ∀ y, PyData.eqv (f x) (f y) = true ↔ x = y) : PyData.eqvAll (xs.map f) (ys.map f) = true ↔ xs = ys := by
  induction xs generalizing ys with
  | nil => cases ys <;> simp [PyData.eqvAll]
  | cons x xs ih =>
    cases ys with
    | nil => simp [PyData.eqvAll]
    | cons y ys =>
      simp only [List.map_cons, PyData.eqvAll, Bool.and_eq_true, List.cons.injEq]
      rw [h x List.mem_cons_self y, ih fun z hz => h z (List.mem_cons_of_mem _ hz)]
theorem eqv_int (i j : Int) : PyData.eqv (.int i) (.int j) = decide (i = j) := by
  simp only [PyData.eqv]
  exact Bool.beq_eq_decide_eq i j
theorem eqv_int_iff (i j : Int) : PyData.eqv (.int i) (.int j) = true ↔ i = j := by rw [eqv_int]; exact decide_eq_true_iff
theorem eqv_str (x y : Str) : PyData.eqv (.str x) (.str y) = decide (x = y) := by
  simp only [PyData.eqv]
  exact Bool.beq_eq_decide_eq x y
theorem eqv_ints (xs ys : List Int) : PyData.eqvAll (xs.map .int) (ys.map .int) = decide (xs = ys) := by
  rw [Bool.eq_iff_iff, decide_eq_true_iff]
  exact eqvAll_map (g := PyData.int) fun x _ y => eqv_int_iff x y

/-! ### trains -/
inductive Part where
  | wheel (z : Int) (ms : List Int)
  | click
  | rocker
  | spring (k : Int)
  deriving DecidableEq
def dInts (l : List Int) : List PyData := l.map .int
def dPart : Part → PyData
  | .wheel z ms => .tuple [.str "wheel", .int z, .tuple (ms.map .int)]
  | .click => .tuple [.str "click"]
  | .rocker => .tuple [.str "rocker"]
  | .spring k => .tuple [.str "spring", .int k]
def marksOk (z : Int) (ms : List Int) : Prop := (∀ m ∈ ms, 0 ≤ m ∧ m < z) ∧ ms.Pairwise (· < ·)
def Part.ok : Part → Prop
  | .wheel z ms => 1 ≤ z ∧ z ≤ 1000 ∧ marksOk z ms
  | .click => True
  | .rocker => True
  | .spring k => 1 ≤ k ∧ k ≤ 1000
def places : Part → Int
  | .wheel z _ => z
  | .click => 1
  | .rocker => 2
  | .spring k => k
abbrev dTrain (T : List Part) : PyData := .list (T.map dPart)
abbrev dStand (s : List Int) : PyData := .tuple (s.map .int)
def trainOk (T : List Part) : Prop := T ≠ [] ∧ T.length ≤ 16 ∧ ∀ p ∈ T, p.ok
def standOk : List Part → List Int → Prop
  | [], [] => True
  | p :: T, x :: s => (0 ≤ x ∧ x < places p) ∧ standOk T s
  | _, _ => False
theorem standOk.len : ∀ {T : List Part} {s : List Int}, standOk T s → s.length = T.length
  | [], [], _ => rfl
  | _ :: _, _ :: _, h => congrArg Nat.succ (standOk.len h.2)
  | [], _ :: _, h => h.elim
  | _ :: _, [], h => h.elim
theorem rising_len {ms : List Int} : ∀ {z : Int} {a : Int}, (∀ m ∈ ms, a ≤ m ∧ m < z) → ms.Pairwise (· < ·) → (ms.length : Int) ≤ max 0 (z - a) := by
  induction ms with
  | nil => intro z a _ _; simp; omega
  | cons m ms ih =>
    intro z a h hp
    have h1 := h m List.mem_cons_self
    rw [List.pairwise_cons] at hp
    have := ih (z := z) (a := m + 1) (fun x hx => ⟨hp.1 x hx, (h x (List.mem_cons_of_mem _ hx)).2⟩) hp.2
    rw [List.length_cons]
    omega
theorem marksOk.len {z : Int} {ms : List Int} (h : marksOk z ms) (hz : 0 ≤ z) : (ms.length : Int) ≤ z := by
  have := rising_len h.1 h.2
  omega
theorem lay_part {p : Part} : Lay (dPart p) 2 := by
  cases p with
  | wheel z ms =>
    refine Lay.tuple (n := 1) fun d hd => ?_
    simp only [List.mem_cons, List.not_mem_nil, or_false] at hd
    rcases hd with rfl | rfl | rfl
    · exact .str (by decide +kernel)
    · exact .int
    · exact (Lay.tuple (n := 0) Lay.ints)
  | click =>
    refine Lay.tuple (n := 1) fun d hd => ?_
    simp only [List.mem_cons, List.not_mem_nil, or_false] at hd
    subst hd
    exact .str (by decide +kernel)
  | rocker =>
    refine Lay.tuple (n := 1) fun d hd => ?_
    simp only [List.mem_cons, List.not_mem_nil, or_false] at hd
    subst hd
    exact .str (by decide +kernel)
  | spring k =>
    refine Lay.tuple (n := 1) fun d hd => ?_
    simp only [List.mem_cons, List.not_mem_nil, or_false] at hd
    rcases hd with rfl | rfl
    · exact .str (by decide +kernel)
    · exact .int
theorem lay_train {T : List Part} : Lay (dTrain T) 3 := .list fun d hd => by
  obtain ⟨p, _, rfl⟩ := List.mem_map.mp hd
  exact lay_part
theorem lay_stand {s : List Int} : Lay (dStand s) 1 := .tuple Lay.ints

/-! ### pushes -/
def wmet (z : Int) (ms : List Int) (x many : Int) : Int := many / z * (ms.length : Int) + ((ms.filter fun m => decide (0 < (m - x - 1) % z + 1) && decide ((m - x - 1) % z + 1 ≤ many % z)).length : Int)
def wleft (z : Int) (ms : List Int) (x many : Int) : Int := many / z * (ms.length : Int) + ((ms.filter fun m => decide ((x - m) % z < many % z)).length : Int)
def ppush (p : Part) (x way many : Int) : Int × Int := match p with
  | .wheel z ms => ((x + way * many) % z, if way = 1 then wmet z ms x many else wleft z ms x many)
  | .click => (0, many * (if way = 1 then 1 else 0))
  | .rocker => if many = 0 then (x, 0) else (if way = 1 then 1 else 0, if way = 1 ∧ x = 0 then 1 else 0)
  | .spring k => if way = 1 then ((x + many) % k, (x + many) / k) else (if x - many > 0 then x - many else 0, 0)
def pushF : List Part → List Int → Int → Int → List Int × Int
  | p :: T, x :: s, way, many => ((ppush p x way many).1 :: (pushF T s way (ppush p x way many).2).1, (pushF T s way (ppush p x way many).2).2)
  | _, s, _, many => (s, many)
/-- pushes at the part i -/
def pushN (T : List Part) (s : List Int) (i : Nat) (way many : Int) : List Int × Int :=
  (s.take i ++ (pushF (T.drop i) (s.drop i) way many).1, way * (pushF (T.drop i) (s.drop i) way many).2)
def isWay (w : Int) : Prop := w = 1 ∨ w = -1
theorem ppush_ok {p : Part} {x way many : Int} (hp : p.ok) (hx : 0 ≤ x ∧ x < places p) (hw : isWay way) (hm : 0 ≤ many) : (0 ≤ (ppush p x way many).1 ∧ (ppush p x way many).1 < places p) ∧ 0 ≤ (ppush p x way many).2 := by
  cases p with
  | wheel z ms =>
    have h1 : (1 : Int) ≤ z := hp.1
    refine ⟨⟨Int.emod_nonneg _ (by omega), Int.emod_lt_of_pos _ (by omega)⟩, ?_⟩
    have q : 0 ≤ many / z * (ms.length : Int) := Int.mul_nonneg (Int.ediv_nonneg hm (by omega)) (by omega)
    simp only [ppush]
    split
    · unfold wmet; omega
    · unfold wleft; omega
  | click =>
    refine ⟨⟨Int.le_refl 0, by show (0 : Int) < 1; decide⟩, ?_⟩
    show 0 ≤ many * (if way = 1 then 1 else 0)
    split <;> omega
  | rocker =>
    have hx2 : x < 2 := hx.2
    simp only [ppush, places]
    split
    · exact ⟨⟨hx.1, hx2⟩, by simp⟩
    · constructor
      · split <;> simp
      · simp only
        split <;> simp
  | spring k =>
    have h1 : (1 : Int) ≤ k := hp.1
    have hx2 : x < k := hx.2
    simp only [ppush, places]
    split
    · exact ⟨⟨Int.emod_nonneg _ (by omega), Int.emod_lt_of_pos _ (by omega)⟩, Int.ediv_nonneg (by omega) (by omega)⟩
    · simp only
      split
      · omega
      · omega
theorem pushF_ok : ∀ {T : List Part} {s : List Int} {way many : Int}, (∀ p ∈ T, p.ok) → standOk T s → isWay way → 0 ≤ many → standOk T (pushF T s way many).1 ∧ 0 ≤ (pushF T s way many).2
  | [], [], _, _, _, _, _, hm => ⟨trivial, hm⟩
  | p :: T, x :: s, way, many, hT, hs, hw, hm => by
    obtain ⟨h1, h2⟩ := ppush_ok (hT p List.mem_cons_self) hs.1 hw hm
    obtain ⟨h3, h4⟩ := pushF_ok (T := T) (s := s) (fun q hq => hT q (List.mem_cons_of_mem _ hq)) hs.2 hw h2
    exact ⟨⟨h1, h3⟩, h4⟩
  | [], _ :: _, _, _, _, h, _, _ => h.elim
  | _ :: _, [], _, _, _, h, _, _ => h.elim
theorem standOk.drop : ∀ {T : List Part} {s : List Int} (i : Nat), standOk T s → standOk (T.drop i) (s.drop i)
  | _, _, 0, h => h
  | [], [], _ + 1, _ => trivial
  | _ :: T, _ :: s, i + 1, h => standOk.drop (T := T) (s := s) i h.2
  | [], _ :: _, _, h => h.elim
  | _ :: _, [], _, h => h.elim
theorem standOk.glue : ∀ {T : List Part} {s s' : List Int} (i : Nat), standOk T s → standOk (T.drop i) s' → standOk T (s.take i ++ s')
  | _, _, _, 0, _, h => h
  | [], [], s', i + 1, _, h => by simpa using h
  | _ :: T, _ :: s, s', i + 1, h, h' => ⟨h.1, standOk.glue (T := T) (s := s) i h.2 h'⟩
  | [], _ :: _, _, _, h, _ => h.elim
  | _ :: _, [], _, _, h, _ => h.elim
theorem pushN_ok {T : List Part} {s : List Int} {i : Nat} {way many : Int} (hT : ∀ p ∈ T, p.ok) (hs : standOk T s) (hw : isWay way) (hm : 0 ≤ many) : standOk T (pushN T s i way many).1 :=
  hs.glue i (pushF_ok (fun p hp => hT p (List.mem_of_mem_drop hp)) (hs.drop i) hw hm).1

/-! ### data that may be compared, found by its form -/
class Ly (d : PyData) (n : outParam Nat) : Prop where
  out : Lay d n
theorem Ly.shp {d : PyData} {n : Nat} [h : Ly d n] (k : n ≤ 64 := by decide) : SeqAt.shaped d = true := h.out.shp k
instance {i : Int} : Ly (.int i) 0 := ⟨.int⟩
instance : Ly .none 0 := ⟨.none⟩
instance {b : Bool} : Ly (.bool b) 0 := ⟨.bool⟩
class LyAll (ds : List PyData) (n : outParam Nat) : Prop where
  out : ∀ d ∈ ds, Lay d n
instance : LyAll [] 0 := ⟨fun d h => by cases h⟩
instance {d : PyData} {ds : List PyData} {n m : Nat} [h : Ly d n] [h2 : LyAll ds m] : LyAll (d :: ds) (max n m) := ⟨fun e he => by
  rcases List.mem_cons.mp he with rfl | he
  · exact h.out.mono (Nat.le_max_left _ _)
  · exact (h2.out e he).mono (Nat.le_max_right _ _)⟩
instance {α : Type} {f : α → PyData} {xs : List α} {n : Nat} [h : ∀ x, Ly (f x) n] : LyAll (xs.map f) n := ⟨fun d hd => by
  obtain ⟨x, _, rfl⟩ := List.mem_map.mp hd
  exact (h x).out⟩
instance {ds : List PyData} {n : Nat} [h : LyAll ds n] : Ly (.tuple ds) (n + 1) := ⟨.tuple h.out⟩
instance {ds : List PyData} {n : Nat} [h : LyAll ds n] : Ly (.list ds) (n + 1) := ⟨.list h.out⟩
instance {p : Part} : Ly (dPart p) 2 := ⟨lay_part⟩
instance : Ly (.str "wheel") 0 := ⟨.str (by decide +kernel)⟩
instance : Ly (.str "click") 0 := ⟨.str (by decide +kernel)⟩
instance : Ly (.str "rocker") 0 := ⟨.str (by decide +kernel)⟩
instance : Ly (.str "spring") 0 := ⟨.str (by decide +kernel)⟩
instance : Ly (.str "row") 0 := ⟨.str (by decide +kernel)⟩
instance : Ly (.str "never") 0 := ⟨.str (by decide +kernel)⟩
instance : Ly (.str "alike") 0 := ⟨.str (by decide +kernel)⟩
instance : Ly (.str "apart") 0 := ⟨.str (by decide +kernel)⟩
instance : Ly (.str "none") 0 := ⟨.str (by decide +kernel)⟩
instance : Ly (.str "0") 0 := ⟨.str (by decide +kernel)⟩
instance : Ly (.str "+") 0 := ⟨.str (by decide +kernel)⟩
instance : Ly (.str "-") 0 := ⟨.str (by decide +kernel)⟩
instance : Ly (.str ":") 0 := ⟨.str (by decide +kernel)⟩
instance : Ly (.str "c") 0 := ⟨.str (by decide +kernel)⟩
instance : Ly (.str "r") 0 := ⟨.str (by decide +kernel)⟩
instance : Ly (.str "s") 0 := ⟨.str (by decide +kernel)⟩
instance : Ly (.str "w") 0 := ⟨.str (by decide +kernel)⟩
instance : Ly (.str "") 0 := ⟨.str (by decide +kernel)⟩
instance : Ly (.str "1") 0 := ⟨.str (by decide +kernel)⟩
instance : Ly (.str "-1") 0 := ⟨.str (by decide +kernel)⟩
/-- a text of plain signs -/
def Asc (x : Str) : Prop := ∀ c ∈ x.cps.toList, c < 128
theorem Asc.ok {x : Str} (h : Asc x) : PyData.strOk x = true := by
  unfold PyData.strOk
  rw [Array.all_eq_true]
  intro i hi
  have := h x.cps[i] (by simp)
  exact decide_eq_true (by omega)
theorem Asc.ly {x : Str} (h : Asc x) : Ly (.str x) 0 := ⟨.str h.ok⟩
end Ct

-- M2
set_option Elab.async false
set_option linter.all false
set_option maxRecDepth 100000
set_option maxHeartbeats 1000000
/-! M2: the search by levels, plain mathematics. -/
namespace Ct
open PySem

section
variable {α σ : Type} [DecidableEq α]
abbrev Came (α σ : Type) := List (α × List σ)
def pathOf (M : Came α σ) (a : α) : List σ := (aGet M a).getD []
def addE (here : α) (M : Came α σ) (st : σ) (b : α) : Came α σ := if (aGet M b).isSome then M else M ++ [(b, pathOf M here ++ [st])]
def inner (here : α) : List (σ × α × Bool) → Came α σ → Sum (List σ) (Came α σ)
  | [], M => .inr M
  | (st, _, true) :: _, M => .inl (pathOf M here ++ [st])
  | (st, b, false) :: es, M => inner here es (addE here M st b)
def bfs (ends : α → List (σ × α × Bool)) : Nat → Nat → Came α σ → Sum (List σ) (Came α σ)
  | 0, _, M => .inr M
  | f + 1, i, M => match M[i]? with
    | none => .inr M
    | some e => match inner e.1 (ends e.1) M with
      | .inl p => .inl p
      | .inr M' => bfs ends f (i + 1) M'
inductive Path (ends : α → List (σ × α × Bool)) (s : α) : List σ → α → Prop
  | nil : Path ends s [] s
  | snoc {p : List σ} {a b : α} {st : σ} : Path ends s p a → (st, b, false) ∈ ends a → Path ends s (p ++ [st]) b
structure Good (ends : α → List (σ × α × Bool)) (s : α) (ok : α → Prop) (M : Came α σ) : Prop where
  nd : (M.map (·.1)).Nodup
  ok : ∀ e ∈ M, ok e.1
  first : ∃ M', M = (s, []) :: M'
  path : ∀ e ∈ M, Path ends s e.2 e.1

theorem aGet_mem {β : Type} {M : List (α × β)} {a : α} {v : β} (h : aGet M a = some v) : (a, v) ∈ M := by
  unfold aGet at h
  obtain ⟨e, he, rfl⟩ := Option.map_eq_some_iff.mp h
  have h1 := List.mem_of_find?_eq_some he
  have h2 := List.find?_some he
  have h3 : e.1 = a := of_decide_eq_true h2
  subst h3
  exact h1
theorem aGet_none {β : Type} {M : List (α × β)} {a : α} : aGet M a = none ↔ a ∉ M.map (·.1) := by
  unfold aGet
  rw [Option.map_eq_none_iff, List.find?_eq_none]
  constructor
  · intro h hm
    obtain ⟨e, he, rfl⟩ := List.mem_map.mp hm
    exact h e he (decide_eq_true rfl)
  · intro h e he hd
    exact h (List.mem_map.mpr ⟨e, he, of_decide_eq_true hd⟩)
theorem aGet_isSome {β : Type} {M : List (α × β)} {a : α} : (aGet M a).isSome = true ↔ a ∈ M.map (·.1) := by
  cases h : aGet M a with
  | none => simp only [Option.isSome_none, Bool.false_eq_true, false_iff]; exact aGet_none.mp h
  | some v => simp only [Option.isSome_some, true_iff]; exact List.mem_map.mpr ⟨_, aGet_mem h, rfl⟩
theorem aGet_of_mem {β : Type} : ∀ {M : List (α × β)} {e : α × β}, (M.map (·.1)).Nodup → e ∈ M → aGet M e.1 = some e.2
  | [], _, _, h => by cases h
  | x :: M, e, hn, h => by
    rw [List.map_cons, List.nodup_cons] at hn
    rcases List.mem_cons.mp h with rfl | h
    · simp [aGet]
    · have hne : x.1 ≠ e.1 := fun q => hn.1 (q ▸ List.mem_map.mpr ⟨e, h, rfl⟩)
      have := aGet_of_mem hn.2 h
      unfold aGet at this ⊢
      rw [List.find?_cons_of_neg (by simpa using hne)]
      exact this
theorem aGet_app {β : Type} {M N : List (α × β)} {a : α} {v : β} (h : aGet M a = some v) : aGet (M ++ N) a = some v := by
  unfold aGet at h ⊢
  rw [List.find?_append]
  obtain ⟨e, he, rfl⟩ := Option.map_eq_some_iff.mp h
  rw [he]
  rfl
theorem aPut_new {β : Type} {M : List (α × β)} {a : α} {v : β} (h : aGet M a = none) : aPut M a v = M ++ [(a, v)] := by
  unfold aPut
  rw [h]
  rfl
variable {ends : α → List (σ × α × Bool)} {s : α} {ok : α → Prop}
theorem Good.path_get {M : Came α σ} (g : Good ends s ok M) {a : α} {p : List σ} (h : aGet M a = some p) : Path ends s p a := g.path _ (aGet_mem h)
theorem addE_pre {here : α} {M : Came α σ} {st : σ} {b : α} : ∃ N, addE here M st b = M ++ N := by
  unfold addE
  split
  · exact ⟨[], by rw [List.append_nil]⟩
  · exact ⟨_, rfl⟩
theorem Good.add {M : Came α σ} (g : Good ends s ok M) {here : α} {ph : List σ} {st : σ} {b : α} (hh : aGet M here = some ph) (he : (st, b, false) ∈ ends here) (hb : ok b) : Good ends s ok (addE here M st b) := by
  unfold addE
  split
  · exact g
  · rename_i hn
    have hn' : b ∉ M.map (·.1) := fun q => hn (aGet_isSome.mpr q)
    have ep : pathOf M here = ph := by unfold pathOf; rw [hh]; rfl
    refine ⟨?_, fun e he' => ?_, ?_, fun e he' => ?_⟩
    · rw [List.map_append, List.nodup_append]
      refine ⟨g.nd, by simp, ?_⟩
      intro x hx y hy
      simp only [List.map_cons, List.map_nil, List.mem_singleton] at hy
      subst hy
      exact fun q => hn' (q ▸ hx)
    · rcases List.mem_append.mp he' with q | q
      · exact g.ok e q
      · rw [List.mem_singleton] at q; subst q; exact hb
    · obtain ⟨M', rfl⟩ := g.first
      exact ⟨M' ++ _, rfl⟩
    · rcases List.mem_append.mp he' with q | q
      · exact g.path e q
      · rw [List.mem_singleton] at q
        subst q
        rw [ep]
        exact .snoc (g.path_get hh) he
/-- the levels: in order, and none above the next -/
def Lev (M : Came α σ) (n : Nat) : Prop := M.Pairwise (fun e f => e.2.length ≤ f.2.length) ∧ ∀ e ∈ M, e.2.length ≤ n + 1
theorem Lev.add {M : Came α σ} {here : α} {ph : List σ} {st : σ} {b : α} (l : Lev M ph.length) (hh : aGet M here = some ph) : Lev (addE here M st b) ph.length := by
  unfold addE
  split
  · exact l
  · have ep : pathOf M here = ph := by unfold pathOf; rw [hh]; rfl
    refine ⟨?_, fun e he => ?_⟩
    · rw [List.pairwise_append]
      refine ⟨l.1, by simp, fun x hx y hy => ?_⟩
      rw [List.mem_singleton] at hy
      subst hy
      have := l.2 x hx
      simp only [ep, List.length_append, List.length_singleton]
      exact this
    · rcases List.mem_append.mp he with q | q
      · exact l.2 e q
      · rw [List.mem_singleton] at q
        subst q
        simp only [ep, List.length_append, List.length_singleton]
        omega
/-- what is asked of a thing whose ends are looked at -/
def Seen (ends : α → List (σ × α × Bool)) (M : Came α σ) (e : α × List σ) : Prop := ∀ x ∈ ends e.1, x.2.2 = false ∧ ∃ p, aGet M x.2.1 = some p ∧ p.length ≤ e.2.length + 1
theorem Seen.app {M N : Came α σ} {e : α × List σ} (h : Seen ends M e) : Seen ends (M ++ N) e := fun x hx => by
  obtain ⟨h1, p, h2, h3⟩ := h x hx
  exact ⟨h1, p, aGet_app h2, h3⟩
theorem inner_inr (hok : ∀ a, ok a → ∀ x ∈ ends a, x.2.2 = false → ok x.2.1) {here : α} {ph : List σ} : ∀ (es : List (σ × α × Bool)) (M M' : Came α σ), (∀ x ∈ es, x ∈ ends here) → Good ends s ok M → aGet M here = some ph → Lev M ph.length → inner here es M = .inr M' →
    Good ends s ok M' ∧ Lev M' ph.length ∧ (∃ N, M' = M ++ N) ∧ ∀ x ∈ es, x.2.2 = false ∧ ∃ p, aGet M' x.2.1 = some p ∧ p.length ≤ ph.length + 1
  | [], M, M', _, g, hh, l, h => by
    cases h
    exact ⟨g, l, ⟨[], by rw [List.append_nil]⟩, fun x hx => by cases hx⟩
  | (st, b, true) :: es, M, M', _, g, hh, l, h => by cases h
  | (st, b, false) :: es, M, M', hs, g, hh, l, h => by
    have hin := hs _ List.mem_cons_self
    have hb : ok b := hok here (g.ok _ (aGet_mem hh)) _ hin rfl
    obtain ⟨N0, e0⟩ := addE_pre (here := here) (M := M) (st := st) (b := b)
    have hh' : aGet (addE here M st b) here = some ph := by rw [e0]; exact aGet_app hh
    obtain ⟨g', l', ⟨N, e1⟩, h'⟩ := inner_inr hok es _ M' (fun x hx => hs x (List.mem_cons_of_mem _ hx)) (g.add hh hin hb) hh' (l.add hh) h
    refine ⟨g', l', ⟨N0 ++ N, by rw [e1, e0, List.append_assoc]⟩, fun x hx => ?_⟩
    rcases List.mem_cons.mp hx with rfl | hx
    · refine ⟨rfl, ?_⟩
      have : b ∈ (addE here M st b).map (·.1) := by
        unfold addE
        split
        · rename_i q; exact aGet_isSome.mp q
        · simp
      have q := aGet_isSome.mpr this
      cases hp : aGet (addE here M st b) b with
      | none => rw [hp] at q; cases q
      | some p => exact ⟨p, by rw [e1]; exact aGet_app hp, (l.add hh).2 _ (aGet_mem hp)⟩
    · exact h' x hx
theorem inner_inl {here : α} {ph : List σ} : ∀ (es : List (σ × α × Bool)) (M : Came α σ) (p : List σ), (∀ x ∈ es, x ∈ ends here) → aGet M here = some ph → inner here es M = .inl p → ∃ st b, p = ph ++ [st] ∧ (st, b, true) ∈ ends here
  | [], _, _, _, _, h => by cases h
  | (st, b, true) :: es, M, p, hs, hh, h => by
    cases h
    refine ⟨st, b, ?_, hs _ List.mem_cons_self⟩
    unfold pathOf
    rw [hh]; rfl
  | (st, b, false) :: es, M, p, hs, hh, h => by
    obtain ⟨N0, e0⟩ := addE_pre (here := here) (M := M) (st := st) (b := b)
    exact inner_inl es (addE here M st b) p (fun x hx => hs x (List.mem_cons_of_mem _ hx)) (by rw [e0]; exact aGet_app hh) h
theorem Good.at {M : Came α σ} (g : Good ends s ok M) {i : Nat} {e : α × List σ} (h : M[i]? = some e) : aGet M e.1 = some e.2 := aGet_of_mem g.nd (List.mem_of_getElem? h)
theorem bfs_inr (hok : ∀ a, ok a → ∀ x ∈ ends a, x.2.2 = false → ok x.2.1) {N : Nat} (hN : ∀ M : Came α σ, Good ends s ok M → M.length ≤ N) : ∀ (f i : Nat) (M M' : Came α σ), N ≤ f + i → Good ends s ok M → (∀ e, M[i]? = some e → Lev M e.2.length) → (∀ j e, j < i → M[j]? = some e → Seen ends M e) → bfs ends f i M = .inr M' →
    Good ends s ok M' ∧ ∀ e ∈ M', Seen ends M' e
  | 0, i, M, M', hf, g, l, c, h => by
    cases h
    refine ⟨g, fun e he => ?_⟩
    obtain ⟨j, hj, rfl⟩ := List.getElem_of_mem he
    exact c j _ (by have := hN M g; omega) (List.getElem?_eq_getElem hj)
  | f + 1, i, M, M', hf, g, l, c, h => by
    unfold bfs at h
    cases hi : M[i]? with
    | none =>
      rw [hi] at h
      cases h
      refine ⟨g, fun e he => ?_⟩
      obtain ⟨j, hj, rfl⟩ := List.getElem_of_mem he
      have := List.getElem?_eq_none_iff.mp hi
      exact c j _ (by omega) (List.getElem?_eq_getElem hj)
    | some e =>
      rw [hi] at h
      dsimp only at h
      cases hin : inner e.1 (ends e.1) M with
      | inl p => rw [hin] at h; cases h
      | inr M1 =>
        rw [hin] at h
        have hil := (List.getElem?_eq_some_iff.mp hi).1
        obtain ⟨g1, l1, ⟨N1, e1⟩, h1⟩ := inner_inr hok (ends e.1) M M1 (fun x hx => hx) g (g.at hi) (l e hi) hin
        refine bfs_inr hok hN f (i + 1) M1 M' (by omega) g1 (fun e' he' => ?_) (fun j e' hj he' => ?_) h
        · refine ⟨l1.1, fun x hx => ?_⟩
          have hle : e.2.length ≤ e'.2.length := by
            have p1 : M1[i]? = some e := by rw [e1, List.getElem?_append_left hil]; exact hi
            obtain ⟨q1, q2⟩ := List.getElem?_eq_some_iff.mp p1
            obtain ⟨q3, q4⟩ := List.getElem?_eq_some_iff.mp he'
            have := List.pairwise_iff_getElem.mp l1.1 i (i + 1) q1 q3 (by omega)
            rw [q2, q4] at this
            exact this
          have := l1.2 x hx
          omega
        · by_cases hji : j = i
          · subst hji
            rw [e1, List.getElem?_append_left hil, hi] at he'
            cases he'
            exact h1
          · have hjl : j < M.length := by omega
            rw [e1, List.getElem?_append_left hjl] at he'
            rw [e1]
            exact (c j e' (by omega) he').app
theorem bfs_inl (hok : ∀ a, ok a → ∀ x ∈ ends a, x.2.2 = false → ok x.2.1) : ∀ (f i : Nat) (M : Came α σ) (p : List σ), Good ends s ok M → (∀ e, M[i]? = some e → Lev M e.2.length) → bfs ends f i M = .inl p → ∃ q a st b, p = q ++ [st] ∧ Path ends s q a ∧ (st, b, true) ∈ ends a
  | 0, i, M, p, g, l, h => by cases h
  | f + 1, i, M, p, g, l, h => by
    unfold bfs at h
    cases hi : M[i]? with
    | none => rw [hi] at h; cases h
    | some e =>
      rw [hi] at h
      dsimp only at h
      cases hin : inner e.1 (ends e.1) M with
      | inl p' =>
        rw [hin] at h
        cases h
        obtain ⟨st, b, h1, h2⟩ := inner_inl (ends e.1) M p (fun x hx => hx) (g.at hi) hin
        exact ⟨e.2, e.1, st, b, h1, g.path e (List.mem_of_getElem? hi), h2⟩
      | inr M1 =>
        rw [hin] at h
        have hil := (List.getElem?_eq_some_iff.mp hi).1
        obtain ⟨g1, l1, ⟨N1, e1⟩, h1⟩ := inner_inr hok (ends e.1) M M1 (fun x hx => hx) g (g.at hi) (l e hi) hin
        refine bfs_inl hok f (i + 1) M1 p g1 (fun e' he' => ⟨l1.1, fun x hx => ?_⟩) h
        have p1 : M1[i]? = some e := by rw [e1, List.getElem?_append_left hil]; exact hi
        obtain ⟨q1, q2⟩ := List.getElem?_eq_some_iff.mp p1
        obtain ⟨q3, q4⟩ := List.getElem?_eq_some_iff.mp he'
        have := List.pairwise_iff_getElem.mp l1.1 i (i + 1) q1 q3 (by omega)
        rw [q2, q4] at this
        have := l1.2 x hx
        omega
theorem Good.start (h : ok s) : Good ends s ok [(s, [])] := ⟨by simp, fun e he => by rw [List.mem_singleton] at he; subst he; exact h, ⟨[], rfl⟩, fun e he => by rw [List.mem_singleton] at he; subst he; exact .nil⟩
theorem Lev.start {n : Nat} : Lev ([(s, [])] : Came α σ) n := ⟨by simp, fun e he => by rw [List.mem_singleton] at he; subst he; exact Nat.zero_le _⟩
end

/-! ### as many as there are stands -/
theorem nodup_le {α : Type} [DecidableEq α] : ∀ {l m : List α}, l.Nodup → (∀ x ∈ l, x ∈ m) → l.length ≤ m.length
  | [], _, _, _ => Nat.zero_le _
  | a :: l, m, hn, hs => by
    rw [List.nodup_cons] at hn
    have ha := hs a List.mem_cons_self
    have := nodup_le (l := l) (m := m.erase a) hn.2 fun x hx => (List.mem_erase_of_ne (fun q => hn.1 (by subst q; exact hx))).mpr (hs x (List.mem_cons_of_mem _ hx))
    rw [List.length_erase_of_mem ha] at this
    have := List.length_pos_of_mem ha
    rw [List.length_cons]; omega
def stands : List Part → List (List Int)
  | [] => [[]]
  | p :: T => (List.range (places p).toNat).flatMap fun (x : Nat) => (stands T).map fun s => (x : Int) :: s
theorem standOk.mem : ∀ {T : List Part} {s : List Int}, standOk T s → s ∈ stands T
  | [], [], _ => by simp [stands]
  | p :: T, x :: s, h => by
    unfold stands
    rw [List.mem_flatMap]
    refine ⟨x.toNat, List.mem_range.mpr (by have := h.1; omega), List.mem_map.mpr ⟨s, standOk.mem h.2, ?_⟩⟩
    rw [Int.toNat_of_nonneg h.1.1]
  | [], _ :: _, h => h.elim
  | _ :: _, [], h => h.elim
theorem stands_len : ∀ {T : List Part}, (∀ p ∈ T, p.ok) → ((stands T).length : Int) = T.foldr (fun p a => places p * a) 1
  | [], _ => rfl
  | p :: T, h => by
    unfold stands
    rw [List.length_flatMap]
    have e : (List.range (places p).toNat).map (fun (x : Nat) => ((stands T).map fun s => (x : Int) :: s).length) = List.replicate (places p).toNat (stands T).length := by
      apply List.ext_getElem
      · simp
      · intro i h1 h2
        simp
    rw [e, List.sum_replicate_nat]
    have h0 : 0 ≤ places p := by
      have := h p List.mem_cons_self
      cases p with
      | wheel z ms => have := this.1; show 0 ≤ z; omega
      | click => decide
      | rocker => decide
      | spring k => have := this.1; show 0 ≤ k; omega
    rw [List.foldr_cons, ← stands_len (T := T) fun q hq => h q (List.mem_cons_of_mem _ hq)]
    push_cast
    rw [Int.toNat_of_nonneg h0]
end Ct

-- M3
set_option Elab.async false
set_option linter.all false
set_option maxRecDepth 100000
set_option maxHeartbeats 1000000
/-! M3: pushes and deeds between stands, plain mathematics. -/
namespace Ct
open PySem

/-! ### keys of dicts -/
theorem nks_ints : ∀ s : List Int, nksOf (s.map .int) = some (s.map .num)
  | [] => by simp [nksOf]
  | x :: s => by simp [nksOf, nkOf, nks_ints s]
theorem nk_stand (s : List Int) : nkOf (dStand s) = some (.tup (s.map .num)) := by simp [nkOf, nks_ints]
theorem depth_nums : ∀ s : List Int, NestedKey.depthAll (s.map .num) = 0
  | [] => by simp [NestedKey.depthAll]
  | x :: s => by simp [NestedKey.depthAll, NestedKey.depth, depth_nums s]
theorem nums_inj : ∀ {a b : List Int}, a.map NestedKey.num = b.map NestedKey.num → a = b
  | [], [], _ => rfl
  | x :: a, y :: b, h => by
    simp only [List.map_cons, List.cons.injEq, NestedKey.num.injEq] at h
    rw [h.1, nums_inj h.2]
  | [], _ :: _, h => by simp at h
  | _ :: _, [], h => by simp at h
/-- stands as keys -/
def stKd : Kd (List Int) where
  dat := dStand
  nk := fun s => .tup (s.map .num)
  ok := nk_stand
  dep := fun s => by simp [NestedKey.depth, depth_nums]
  inj := fun a b h => nums_inj (by simpa using h)
  ni := fun a i h => by cases h
abbrev dPair (p : List Int × List Int) : PyData := .tuple [dStand p.1, dStand p.2]
/-- pairs of stands as keys -/
def prKd : Kd (List Int × List Int) where
  dat := dPair
  nk := fun p => .tup [.tup (p.1.map .num), .tup (p.2.map .num)]
  ok := fun p => by simp [nkOf, nksOf, nks_ints]
  dep := fun p => by simp [NestedKey.depth, NestedKey.depthAll, depth_nums]
  inj := fun a b h => by
    simp only [NestedKey.tup.injEq, List.cons.injEq, and_true] at h
    exact Prod.ext (nums_inj h.1) (nums_inj h.2)
  ni := fun a i h => by cases h

/-! ### keys of a train, pushes -/
def keysOk (T : List Part) (keys : List Int) : Prop := keys.Nodup ∧ ∀ k ∈ keys, 0 ≤ k ∧ k < T.length
def allP (keys : List Int) : List (Int × Int) := keys.flatMap fun i => [(i, 1), (i, -1)]
theorem allP_mem {keys : List Int} {p : Int × Int} (h : p ∈ allP keys) : p.1 ∈ keys ∧ isWay p.2 := by
  unfold allP at h
  obtain ⟨i, hi, hp⟩ := List.mem_flatMap.mp h
  simp only [List.mem_cons, List.not_mem_nil, or_false] at hp
  rcases hp with rfl | rfl
  · exact ⟨hi, .inl rfl⟩
  · exact ⟨hi, .inr rfl⟩
/-- a push or a deed: part, way, times (0: a push) -/
abbrev Stp := Int × Int × Int
def push1 (T : List Part) (s : List Int) (i way : Int) : List Int := (pushN T s i.toNat way 1).1
def pEnds (T : List Part) (keys : List Int) (s : List Int) : List (Stp × List Int) := (allP keys).map fun p => ((p.1, p.2, 0), push1 T s p.1 p.2)
def orb (T : List Part) (i way : Int) : Nat → Nat → List Int → List (List Int) → List (Stp × List Int)
  | 0, _, _, _ => []
  | f + 1, t, here, met => if here ∈ met then [] else (if 0 < t then [((i, way, (t : Int)), here)] else []) ++ orb T i way f (t + 1) (push1 T here i way) (met ++ [here])
def dEnds (T : List Part) (keys : List Int) (s : List Int) : List (Stp × List Int) := (allP keys).flatMap fun p => orb T p.1 p.2 501 0 s []
def dPush (p : Stp) : PyData := .tuple [.int p.1, .int p.2.1]
/-- the train's stands are few -/
def few (T : List Part) : Prop := (stands T).length ≤ 500
theorem push1_ok {T : List Part} {s : List Int} {i way : Int} (hT : ∀ p ∈ T, p.ok) (hs : standOk T s) (hw : isWay way) : standOk T (push1 T s i way) := pushN_ok hT hs hw (by decide)
theorem pEnds_ok {T : List Part} {keys s : List Int} (hT : ∀ p ∈ T, p.ok) (hs : standOk T s) : ∀ e ∈ pEnds T keys s, standOk T e.2 := fun e he => by
  unfold pEnds at he
  obtain ⟨p, hp, rfl⟩ := List.mem_map.mp he
  exact push1_ok hT hs (allP_mem hp).2
theorem orb_ok {T : List Part} {i way : Int} (hT : ∀ p ∈ T, p.ok) (hw : isWay way) : ∀ (f t : Nat) (here : List Int) (met : List (List Int)), standOk T here → ∀ e ∈ orb T i way f t here met, standOk T e.2
  | 0, _, _, _, _, e, he => by cases he
  | f + 1, t, here, met, hh, e, he => by
    unfold orb at he
    split at he
    · cases he
    · rcases List.mem_append.mp he with q | q
      · split at q
        · rw [List.mem_singleton] at q; subst q; exact hh
        · cases q
      · exact orb_ok hT hw f _ _ _ (push1_ok hT hh hw) e q
theorem dEnds_ok {T : List Part} {keys s : List Int} (hT : ∀ p ∈ T, p.ok) (hs : standOk T s) : ∀ e ∈ dEnds T keys s, standOk T e.2 := fun e he => by
  unfold dEnds at he
  obtain ⟨p, hp, h⟩ := List.mem_flatMap.mp he
  exact orb_ok hT (allP_mem hp).2 _ _ _ _ hs e h

/-! ### answers -/
inductive Ans where
  | alike (ps : List (List Int × List Int))
  | apart (ws : List Int)
  | never (ss : List (List Int))
  | row (deed : Bool) (p : List Stp) (ns : List (List Int × Int))
  | wheel (z : Int) (ms : List Int) (bars : List (Int × Int))
  | none_ (j k : Int)
def dStep (deed : Bool) (p : Stp) : PyData := if deed then .tuple [.int p.1, .int p.2.1, .int p.2.2] else .tuple [.int p.1, .int p.2.1]
def dNum (n : List Int × Int) : PyData := .tuple [dStand n.1, .int n.2]
def dBar (b : Int × Int) : PyData := .tuple [.int b.1, .int b.2]
def dAns : Ans → PyData
  | .alike ps => .tuple [.str "alike", .list (ps.map dPair)]
  | .apart ws => .tuple [.str "apart", .list (ws.map .int)]
  | .never ss => .tuple [.str "never", .list (ss.map dStand)]
  | .row deed p ns => .tuple [.str "row", .list (p.map (dStep deed)), .list (ns.map dNum)]
  | .wheel z ms bars => .tuple [.str "wheel", .int z, .tuple (ms.map .int), .list (bars.map dBar)]
  | .none_ j k => .tuple [.str "none", .int j, .int k]

/-! ### stands in order -/
def leS (a b : List Int) : Bool := PySem.W.dataLe false _root_.id (dStand a) (dStand b)
def sortS (l : List (List Int)) : List (List Int) := l.mergeSort leS
theorem sortS_eq (l : List (List Int)) : (l.map dStand).mergeSort (PySem.W.dataLe false _root_.id) = (sortS l).map dStand :=
  (List.map_mergeSort (r := leS) (s := PySem.W.dataLe false _root_.id) (f := dStand) (l := l) (fun _ _ _ _ => rfl)).symm
theorem mem_sortS {l : List (List Int)} {a : List Int} : a ∈ sortS l ↔ a ∈ l := List.mem_mergeSort
/-! ### the search over stands -/
def toE (E : List Int → List (Stp × List Int)) (s : List Int) : List (Stp × List Int × Bool) := (E s).map fun e => (e.1, e.2, false)
abbrev Cm := Came (List Int) Stp
def innerM (here : List Int) (es : List (Stp × List Int)) (M : Cm) : Cm := es.foldl (fun M e => addE here M e.1 e.2) M
theorem inner_eq (here : List Int) : ∀ (es : List (Stp × List Int)) (M : Cm), inner here (es.map fun e => (e.1, e.2, false)) M = .inr (innerM here es M)
  | [], M => rfl
  | e :: es, M => inner_eq here es (addE here M e.1 e.2)
def bfsS (E : List Int → List (Stp × List Int)) : Nat → Nat → Cm → Cm
  | 0, _, M => M
  | f + 1, i, M => match M[i]? with
    | none => M
    | some e => bfsS E f (i + 1) (innerM e.1 (E e.1) M)
theorem bfsS_eq (E : List Int → List (Stp × List Int)) : ∀ (f i : Nat) (M : Cm), bfs (toE E) f i M = .inr (bfsS E f i M)
  | 0, _, M => rfl
  | f + 1, i, M => by
    unfold bfs bfsS
    cases M[i]? with
    | none => rfl
    | some e =>
      dsimp only
      rw [show toE E e.1 = (E e.1).map (fun e => (e.1, e.2, false)) from rfl, inner_eq]
      exact bfsS_eq E f (i + 1) _
def cameS (E : List Int → List (Stp × List Int)) (s : List Int) : Cm := bfsS E 501 0 [(s, [])]
def leastA (deed : Bool) (E : List Int → List (Stp × List Int)) (s g : List Int) : Ans :=
  match aGet (cameS E s) g with
  | none => .never (sortS ((cameS E s).map (·.1)))
  | some p => .row deed p ((sortS ((cameS E s).map (·.1))).map fun one => (one, ((pathOf (cameS E s) one).length : Int)))
def Short {α σ : Type} (M : Came α σ) : Prop := ∀ e ∈ M, e.2.length < M.length
theorem Short.add {α σ : Type} [DecidableEq α] {M : Came α σ} (h : Short M) {here : α} {ph : List σ} {st : σ} {b : α} (hh : aGet M here = some ph) : Short (addE here M st b) := by
  unfold addE
  split
  · exact h
  · have ep : pathOf M here = ph := by unfold pathOf; rw [hh]; rfl
    intro e he
    rw [List.length_append, List.length_singleton]
    rcases List.mem_append.mp he with q | q
    · have := h e q; omega
    · rw [List.mem_singleton] at q
      subst q
      have := h _ (aGet_mem hh)
      simp only [ep, List.length_append, List.length_singleton]
      dsimp only at this
      omega
/-- the word of the search -/
structure Srch (T : List Part) (E : List Int → List (Stp × List Int)) (s : List Int) (M : Cm) : Prop where
  good : Good (toE E) s (standOk T) M
  short : Short M
theorem Srch.len {T : List Part} {E : List Int → List (Stp × List Int)} {s : List Int} {M : Cm} (h : Srch T E s M) (hf : few T) : M.length ≤ 500 := by
  have := nodup_le h.good.nd (m := stands T) fun x hx => by
    obtain ⟨e, he, rfl⟩ := List.mem_map.mp hx
    exact (h.good.ok e he).mem
  rw [List.length_map] at this
  unfold few at hf
  omega
theorem Srch.add {T : List Part} {E : List Int → List (Stp × List Int)} {s : List Int} {M : Cm} (h : Srch T E s M) {here : List Int} {ph : List Stp} {e : Stp × List Int} (hh : aGet M here = some ph) (he : e ∈ E here) (hb : standOk T e.2) : Srch T E s (addE here M e.1 e.2) :=
  ⟨h.good.add hh (List.mem_map.mpr ⟨e, he, rfl⟩) hb, h.short.add hh⟩
theorem Srch.start {T : List Part} {E : List Int → List (Stp × List Int)} {s : List Int} (h : standOk T s) : Srch T E s [(s, [])] := ⟨.start h, fun e he => by rw [List.mem_singleton] at he; subst he; exact Nat.zero_lt_one⟩
theorem aGet_pathOf {M : Cm} {a : List Int} (h : a ∈ M.map (·.1)) : aGet M a = some (pathOf M a) := by
  have := aGet_isSome.mpr h
  unfold pathOf
  cases e : aGet M a with
  | none => rw [e] at this; cases this
  | some p => rfl
end Ct

-- M4
set_option Elab.async false
set_option linter.all false
set_option maxRecDepth 100000
set_option maxHeartbeats 1000000
/-! M4: pairs of stands, plain mathematics. -/
namespace Ct
open PySem
abbrev Pr := List Int × List Int
/-! ### order -/
theorem dataLt_of {x y : PyData} (ha : PySem.W.alike x y = true) (h : PySem.W.dataLt y x = false) (hn : PyData.eqv x y = false) : PySem.W.dataLt x y = true := by
  cases e : PySem.W.dataLt x y with
  | true => rfl
  | false =>
    have ht := (PyProof.Rows.listOrd PyProof.Rows.itemOrd).total (PySem.W.keyToks x) (PySem.W.keyToks y) e h
    have k := (PySem.W.toks_eqv x y ha).2 hn [.inl 0] [.inl 1]
    rw [ht, PySem.W.lex_pre] at k
    have k2 : PyProof.Rows.lexLt PyProof.Rows.itemOrd (PySem.W.keyToks y) (PySem.W.keyToks y) = false := (PyProof.Rows.listOrd PyProof.Rows.itemOrd).irrefl _
    rw [k2] at k
    exact absurd k (by decide +kernel)
theorem eqv_standB (a b : List Int) : PyData.eqv (dStand a) (dStand b) = decide (a = b) := by rw [PyData.eqv, eqv_ints]
theorem eqv_pair (a b : Pr) : PyData.eqv (dPair a) (dPair b) = decide (a = b) := by
  rw [PyData.eqv]
  simp only [PyData.eqvAll, eqv_standB, Bool.and_true]
  rw [Bool.eq_iff_iff, Bool.and_eq_true, decide_eq_true_iff, decide_eq_true_iff, decide_eq_true_iff, Prod.ext_iff]
theorem alike_pair (a b : Pr) : PySem.W.alike (dPair a) (dPair b) = true := by
  simp [PySem.W.alike, PySem.W.alikeAll, PySem.W.alike_ints]
def leP (a b : Pr) : Bool := PySem.W.dataLe false _root_.id (dPair a) (dPair b)
def sortP (l : List Pr) : List Pr := l.mergeSort leP
theorem sortP_eq (l : List Pr) : (l.map dPair).mergeSort (PySem.W.dataLe false _root_.id) = (sortP l).map dPair :=
  (List.map_mergeSort (r := leP) (s := PySem.W.dataLe false _root_.id) (f := dPair) (l := l) (fun _ _ _ _ => rfl)).symm
theorem mem_sortP {l : List Pr} {a : Pr} : a ∈ sortP l ↔ a ∈ l := List.mem_mergeSort
theorem sortP_nodup {l : List Pr} (h : l.Nodup) : (sortP l).Nodup := (List.mergeSort_perm l leP).nodup_iff.mpr h
theorem leP_total : PySem.W.TotalLe leP := PySem.W.sortLe_total (PyProof.Rows.listOrd PyProof.Rows.itemOrd) false fun a : Pr => PySem.W.keyToks (dPair a)
theorem sortP_lt {l : List Pr} (h : l.Nodup) : (sortP l).Pairwise fun a b => PySem.W.dataLt (dPair a) (dPair b) = true := by
  have h1 := PySem.W.sort_pairwise leP_total l
  have h2 := sortP_nodup h
  unfold List.Nodup at h2
  refine (h1.and h2).imp ?_
  rintro a b ⟨q1, q2⟩
  have q1' : (!PySem.W.dataLt (dPair b) (dPair a)) = true := q1
  rw [Bool.not_eq_true'] at q1'
  exact dataLt_of (alike_pair a b) q1' (by rw [eqv_pair]; exact decide_eq_false q2)
/-! ### the search over pairs -/
def prNext (T U : List Part) (p : Pr) (w : Int) : Pr := (push1 T p.1 0 w, push1 U p.2 0 w)
def prS1 (T : List Part) (p : Pr) (w : Int) : Int := (pushN T p.1 0 w 1).2
def prS2 (U : List Part) (p : Pr) (w : Int) : Int := (pushN U p.2 0 w 1).2
def prEnd (T U : List Part) (p : Pr) (w : Int) : Int × Pr × Bool := (w, prNext T U p w, decide (prS1 T p w ≠ prS2 U p w))
def prEnds (T U : List Part) (p : Pr) : List (Int × Pr × Bool) := [prEnd T U p 1, prEnd T U p (-1)]
def prOk (T U : List Part) (p : Pr) : Prop := standOk T p.1 ∧ standOk U p.2
def pfew (T U : List Part) : Prop := (stands T).length * (stands U).length ≤ 3600
theorem prNext_ok {T U : List Part} {p : Pr} {w : Int} (hT : ∀ p ∈ T, p.ok) (hU : ∀ p ∈ U, p.ok) (h : prOk T U p) (hw : isWay w) : prOk T U (prNext T U p w) := ⟨push1_ok hT h.1 hw, push1_ok hU h.2 hw⟩
theorem prEnds_ok {T U : List Part} (hT : ∀ p ∈ T, p.ok) (hU : ∀ p ∈ U, p.ok) : ∀ a, prOk T U a → ∀ x ∈ prEnds T U a, x.2.2 = false → prOk T U x.2.1 := fun a ha x hx _ => by
  unfold prEnds at hx
  simp only [List.mem_cons, List.not_mem_nil, or_false] at hx
  rcases hx with rfl | rfl
  · exact prNext_ok hT hU ha (.inl rfl)
  · exact prNext_ok hT hU ha (.inr rfl)
abbrev Cp := Came Pr Int
structure SrchP (T U : List Part) (s : Pr) (M : Cp) : Prop where
  good : Good (prEnds T U) s (prOk T U) M
  short : Short M
theorem SrchP.len {T U : List Part} {s : Pr} {M : Cp} (h : SrchP T U s M) (hf : pfew T U) : M.length ≤ 3600 := by
  have := nodup_le h.good.nd (m := (stands T).flatMap fun a => (stands U).map fun b => (a, b)) fun x hx => by
    obtain ⟨e, he, rfl⟩ := List.mem_map.mp hx
    have := h.good.ok e he
    exact List.mem_flatMap.mpr ⟨e.1.1, this.1.mem, List.mem_map.mpr ⟨e.1.2, this.2.mem, rfl⟩⟩
  rw [List.length_map, List.length_flatMap] at this
  have e : (stands T).map (fun a => ((stands U).map fun b => (a, b)).length) = List.replicate (stands T).length (stands U).length := by
    apply List.ext_getElem
    · simp
    · intro i h1 h2; simp
  rw [e, List.sum_replicate_nat] at this
  unfold pfew at hf
  omega
theorem SrchP.add {T U : List Part} {s : Pr} {M : Cp} (h : SrchP T U s M) {here : Pr} {ph : List Int} {w : Int} (hT : ∀ p ∈ T, p.ok) (hU : ∀ p ∈ U, p.ok) (hh : aGet M here = some ph) (hw : isWay w) (hc : prS1 T here w = prS2 U here w) : SrchP T U s (addE here M w (prNext T U here w)) := by
  have hp : prOk T U here := h.good.ok _ (aGet_mem hh)
  refine ⟨h.good.add hh ?_ (prNext_ok hT hU hp hw), h.short.add hh⟩
  have hd : decide (prS1 T here w ≠ prS2 U here w) = false := decide_eq_false fun q => q hc
  unfold prEnds prEnd
  rcases hw with rfl | rfl
  · rw [hd]; exact List.mem_cons_self
  · rw [hd]; exact List.mem_cons_of_mem _ List.mem_cons_self
theorem SrchP.start {T U : List Part} {s : Pr} (h : prOk T U s) : SrchP T U s [(s, [])] := ⟨.start h, fun e he => by rw [List.mem_singleton] at he; subst he; exact Nat.zero_lt_one⟩
def aliveR (T U : List Part) (s : Pr) : Sum (List Int) Cp := bfs (prEnds T U) 3601 0 [(s, [])]
def alikeA (T U : List Part) (s : Pr) : Ans := match aliveR T U s with
  | .inl p => .apart p
  | .inr M => .alike (sortP (M.map (·.1)))
/-! ### what the judges ask -/
def goP (T U : List Part) (p : Pr) (ws : List Int) : Pr := ws.foldl (fun p w => prNext T U p w) p
def ApartOk (T U : List Part) (s : Pr) (ws : List Int) : Prop := (∀ w ∈ ws, isWay w) ∧ ws.length ≤ 5000 ∧ ∃ q w, ws = q ++ [w] ∧ prS1 T (goP T U s q) w ≠ prS2 U (goP T U s q) w
def AlikeOk (T U : List Part) (s : Pr) (ps : List Pr) : Prop := ps.Pairwise (fun a b => PySem.W.dataLt (dPair a) (dPair b) = true) ∧ ps.Nodup ∧ (∀ p ∈ ps, prOk T U p) ∧ ps.length ≤ 5000 ∧ s ∈ ps ∧ ∀ p ∈ ps, ∀ w, isWay w → prS1 T p w = prS2 U p w ∧ prNext T U p w ∈ ps
theorem prEnds_mem {T U : List Part} {a : Pr} {x : Int × Pr × Bool} (h : x ∈ prEnds T U a) : isWay x.1 ∧ x = prEnd T U a x.1 := by
  unfold prEnds at h
  simp only [List.mem_cons, List.not_mem_nil, or_false] at h
  rcases h with rfl | rfl
  · exact ⟨.inl rfl, rfl⟩
  · exact ⟨.inr rfl, rfl⟩
theorem path_go {T U : List Part} {s : Pr} {p : List Int} {a : Pr} (h : Path (prEnds T U) s p a) : goP T U s p = a ∧ ∀ w ∈ p, isWay w := by
  induction h with
  | nil => exact ⟨rfl, fun w hw => by cases hw⟩
  | snoc h he ih =>
    obtain ⟨h1, h2⟩ := prEnds_mem he
    have h3 := congrArg (fun x => x.2.1) h2
    dsimp only [prEnd] at h1 h3
    refine ⟨?_, fun w hw => ?_⟩
    · unfold goP at ih ⊢
      rw [List.foldl_append, ih.1]
      exact h3.symm
    · rcases List.mem_append.mp hw with q | q
      · exact ih.2 w q
      · rw [List.mem_singleton] at q; subst q; exact h1
theorem bfs_short {α σ : Type} [DecidableEq α] {ends : α → List (σ × α × Bool)} {N : Nat} {ok : α → Prop} {s : α} (hok : ∀ a, ok a → ∀ x ∈ ends a, x.2.2 = false → ok x.2.1) : ∀ (f i : Nat) (M : Came α σ) (p : List σ), Good ends s ok M → Short M → (∀ M, Good ends s ok M → Short M → M.length ≤ N) → bfs ends f i M = .inl p → p.length ≤ N
  | 0, _, _, _, _, _, _, h => by cases h
  | f + 1, i, M, p, g, sh, hN, h => by
    unfold bfs at h
    cases hi : M[i]? with
    | none => rw [hi] at h; cases h
    | some e =>
      rw [hi] at h
      dsimp only at h
      have key : ∀ (es : List (σ × α × Bool)) (M : Came α σ), (∀ x ∈ es, x ∈ ends e.1) → Good ends s ok M → Short M → aGet M e.1 = some e.2 → (∀ q, inner e.1 es M = .inl q → q.length ≤ N) ∧ ∀ M', inner e.1 es M = .inr M' → Good ends s ok M' ∧ Short M' := by
        intro es
        induction es with
        | nil => exact fun M _ g sh hh => ⟨fun q h => (by cases h), fun M' h => by cases h; exact ⟨g, sh⟩⟩
        | cons x es ih =>
          intro M hs g sh hh
          obtain ⟨st, b, c⟩ := x
          cases c with
          | true =>
            refine ⟨fun q h => ?_, fun M' h => by cases h⟩
            cases h
            have h1 := sh _ (aGet_mem hh)
            have h2 := hN M g sh
            have ep : pathOf M e.1 = e.2 := by unfold pathOf; rw [hh]; rfl
            rw [ep, List.length_append, List.length_singleton]
            dsimp only at h1
            omega
          | false =>
            have hin := hs _ List.mem_cons_self
            have hb : ok b := hok e.1 (g.ok _ (aGet_mem hh)) _ hin rfl
            obtain ⟨N0, e0⟩ := addE_pre (here := e.1) (M := M) (st := st) (b := b)
            exact ih (addE e.1 M st b) (fun x hx => hs x (List.mem_cons_of_mem _ hx)) (g.add hh hin hb) (sh.add hh) (by rw [e0]; exact aGet_app hh)
      obtain ⟨k1, k2⟩ := key (ends e.1) M (fun x hx => hx) g sh (g.at hi)
      cases hin : inner e.1 (ends e.1) M with
      | inl q => rw [hin] at h; cases h; exact k1 _ hin
      | inr M1 =>
        rw [hin] at h
        obtain ⟨g1, s1⟩ := k2 M1 hin
        exact bfs_short hok f (i + 1) M1 p g1 s1 hN h
/-- what the search tells is what the judges ask -/
theorem alike_ok {T U : List Part} {s : Pr} (hT : ∀ p ∈ T, p.ok) (hU : ∀ p ∈ U, p.ok) (hs : prOk T U s) (hf : pfew T U) : (∃ ws, alikeA T U s = .apart ws ∧ ApartOk T U s ws) ∨ ∃ ps, alikeA T U s = .alike ps ∧ AlikeOk T U s ps := by
  have hok := prEnds_ok hT hU
  have hst := SrchP.start (T := T) (U := U) hs
  unfold alikeA
  cases h : aliveR T U s with
  | inl ws =>
    refine .inl ⟨ws, rfl, ?_⟩
    obtain ⟨q, a, w, b, h1, h2, h3⟩ := bfs_inl hok 3601 0 _ ws hst.good (fun e _ => Lev.start) h
    obtain ⟨p1, p2⟩ := path_go h2
    obtain ⟨w1, w2⟩ := prEnds_mem h3
    have hlen := bfs_short (N := 3600) hok 3601 0 _ ws hst.good hst.short (fun M g sh => SrchP.len ⟨g, sh⟩ hf) h
    refine ⟨fun x hx => ?_, by omega, q, w, h1, ?_⟩
    · rw [h1] at hx
      rcases List.mem_append.mp hx with r | r
      · exact p2 x r
      · rw [List.mem_singleton] at r; subst r; exact w1
    · rw [p1]
      have := congrArg (fun x => x.2.2) w2
      exact of_decide_eq_true this.symm
  | inr M =>
    refine .inr ⟨_, rfl, ?_⟩
    obtain ⟨g, hse⟩ := bfs_inr (N := 3600) hok (fun M g => by
      have := nodup_le g.nd (m := (stands T).flatMap fun a => (stands U).map fun b => (a, b)) fun x hx => by
        obtain ⟨e, he, rfl⟩ := List.mem_map.mp hx
        have := g.ok e he
        exact List.mem_flatMap.mpr ⟨e.1.1, this.1.mem, List.mem_map.mpr ⟨e.1.2, this.2.mem, rfl⟩⟩
      rw [List.length_map, List.length_flatMap] at this
      have e : (stands T).map (fun a => ((stands U).map fun b => (a, b)).length) = List.replicate (stands T).length (stands U).length := by
        apply List.ext_getElem
        · simp
        · intro i h1 h2; simp
      rw [e, List.sum_replicate_nat] at this
      unfold pfew at hf
      omega) 3601 0 _ M (by omega) hst.good (fun e _ => Lev.start) (fun j e hj => by omega) h
    have hml : M.length ≤ 3600 := by
      have := nodup_le g.nd (m := (stands T).flatMap fun a => (stands U).map fun b => (a, b)) fun x hx => by
        obtain ⟨e, he, rfl⟩ := List.mem_map.mp hx
        have := g.ok e he
        exact List.mem_flatMap.mpr ⟨e.1.1, this.1.mem, List.mem_map.mpr ⟨e.1.2, this.2.mem, rfl⟩⟩
      rw [List.length_map, List.length_flatMap] at this
      have e : (stands T).map (fun a => ((stands U).map fun b => (a, b)).length) = List.replicate (stands T).length (stands U).length := by
        apply List.ext_getElem
        · simp
        · intro i h1 h2; simp
      rw [e, List.sum_replicate_nat] at this
      unfold pfew at hf
      omega
    refine ⟨sortP_lt g.nd, sortP_nodup g.nd, fun p hp => ?_, ?_, ?_, fun p hp w hw => ?_⟩
    · obtain ⟨e, he, rfl⟩ := List.mem_map.mp (mem_sortP.mp hp)
      exact g.ok e he
    · unfold sortP
      rw [List.length_mergeSort, List.length_map]; omega
    · obtain ⟨M', rfl⟩ := g.first
      exact mem_sortP.mpr List.mem_cons_self
    · obtain ⟨e, he, rfl⟩ := List.mem_map.mp (mem_sortP.mp hp)
      have hx : prEnd T U e.1 w ∈ prEnds T U e.1 := by
        unfold prEnds
        rcases hw with rfl | rfl
        · exact List.mem_cons_self
        · exact List.mem_cons_of_mem _ List.mem_cons_self
      obtain ⟨q1, pth, q2, _⟩ := hse e he _ hx
      refine ⟨?_, mem_sortP.mpr (List.mem_map.mpr ⟨_, aGet_mem q2, rfl⟩)⟩
      have q1' : decide (prS1 T e.1 w ≠ prS2 U e.1 w) = false := q1
      exact Decidable.not_not.mp (of_decide_eq_false q1')
end Ct

-- M5
set_option Elab.async false
set_option linter.all false
set_option maxRecDepth 100000
set_option maxHeartbeats 1000000
/-! M5: wears, plain mathematics. -/
namespace Ct
open PySem
abbrev Wear := Option (Int × Int)
def dWear : Wear → PyData
  | none => .none
  | some x => .tuple [.int x.1, .int x.2]
def partWears (i : Nat) : Part → List Wear
  | .wheel _ ms => ms.map fun m => some ((i : Int), m)
  | _ => []
def wFrom : Nat → List Part → List Wear
  | _, [] => []
  | i, p :: T => partWears i p ++ wFrom (i + 1) T
def wearsF (T : List Part) : List Wear := none :: wFrom 0 T
theorem wFrom_app : ∀ (i : Nat) (A B : List Part), wFrom i (A ++ B) = wFrom i A ++ wFrom (i + A.length) B
  | i, [], B => rfl
  | i, p :: A, B => by
    show partWears i p ++ wFrom (i + 1) (A ++ B) = (partWears i p ++ wFrom (i + 1) A) ++ wFrom (i + (A.length + 1)) B
    rw [wFrom_app, List.append_assoc, show i + 1 + A.length = i + (A.length + 1) by omega]
theorem partWears_len {p : Part} (h : p.ok) (i : Nat) : (partWears i p).length ≤ 1000 := by
  cases p with
  | wheel z ms =>
    have := h.2.2.len (by have := h.1; omega)
    have := h.2.1
    show (ms.map _).length ≤ 1000
    rw [List.length_map]; omega
  | click => exact Nat.zero_le _
  | rocker => exact Nat.zero_le _
  | spring k => exact Nat.zero_le _
theorem wFrom_len : ∀ {T : List Part} (i : Nat), (∀ p ∈ T, p.ok) → (wFrom i T).length ≤ 1000 * T.length
  | [], _, _ => Nat.le_refl _
  | p :: T, i, h => by
    have h1 := partWears_len (h p List.mem_cons_self) i
    have h2 := wFrom_len (T := T) (i + 1) fun q hq => h q (List.mem_cons_of_mem _ hq)
    show (partWears i p ++ wFrom (i + 1) T).length ≤ _
    rw [List.length_append, List.length_cons]; omega
def WearOk (T : List Part) (w : Wear) : Prop := w = none ∨ ∃ (i : Nat) (z : Int) (ms : List Int) (m : Int), w = some ((i : Int), m) ∧ T[i]? = some (.wheel z ms)
theorem wFrom_mem : ∀ {T : List Part} {i : Nat} {w : Wear}, w ∈ wFrom i T → ∃ (j : Nat) (z : Int) (ms : List Int) (m : Int), w = some (((i + j : Nat) : Int), m) ∧ T[j]? = some (.wheel z ms)
  | [], _, _, h => by cases h
  | p :: T, i, w, h => by
    have h' : w ∈ partWears i p ++ wFrom (i + 1) T := h
    rcases List.mem_append.mp h' with q | q
    · cases p with
      | wheel z ms =>
        obtain ⟨m, _, rfl⟩ := List.mem_map.mp (show w ∈ ms.map _ from q)
        exact ⟨0, z, ms, m, rfl, rfl⟩
      | click => cases q
      | rocker => cases q
      | spring k => cases q
    · obtain ⟨j, z, ms, m, h1, h2⟩ := wFrom_mem q
      exact ⟨j + 1, z, ms, m, by rw [h1, show i + 1 + j = i + (j + 1) by omega], h2⟩
theorem wearsF_ok {T : List Part} {w : Wear} (h : w ∈ wearsF T) : WearOk T w := by
  rcases List.mem_cons.mp h with rfl | h
  · exact .inl rfl
  · obtain ⟨j, z, ms, m, h1, h2⟩ := wFrom_mem h
    rw [Nat.zero_add] at h1
    exact .inr ⟨j, z, ms, m, h1, h2⟩
def wornF (T : List Part) : Wear → List Part
  | none => T
  | some x => match T[x.1.toNat]? with
    | some (.wheel z ms) => T.take x.1.toNat ++ [.wheel z (ms.filter fun m => decide (m ≠ x.2))] ++ T.drop (x.1.toNat + 1)
    | _ => T
theorem wornF_some {T : List Part} {i : Nat} {z : Int} {ms : List Int} {m : Int} (h : T[i]? = some (.wheel z ms)) : wornF T (some ((i : Int), m)) = T.take i ++ [.wheel z (ms.filter fun n => decide (n ≠ m))] ++ T.drop (i + 1) := by
  unfold wornF
  simp only [Int.toNat_natCast, h]
theorem worn_part {z : Int} {ms : List Int} {f : Int → Bool} (h : Part.ok (.wheel z ms)) : Part.ok (.wheel z (ms.filter f)) :=
  ⟨h.1, h.2.1, fun m hm => h.2.2.1 m (List.mem_filter.mp hm).1, h.2.2.2.sublist List.filter_sublist⟩
theorem wornF_ok {T : List Part} {w : Wear} (hT : trainOk T) (h : WearOk T w) : trainOk (wornF T w) ∧ (wornF T w).length = T.length := by
  rcases h with rfl | ⟨i, z, ms, m, rfl, h⟩
  · exact ⟨hT, rfl⟩
  · rw [wornF_some h]
    have hi := (List.getElem?_eq_some_iff.mp h).1
    have hl : (T.take i ++ [Part.wheel z (ms.filter fun n => decide (n ≠ m))] ++ T.drop (i + 1)).length = T.length := by
      simp only [List.length_append, List.length_take, List.length_drop, List.length_singleton]
      omega
    refine ⟨⟨fun q => ?_, by rw [hl]; exact hT.2.1, fun p hp => ?_⟩, hl⟩
    · rw [q] at hl
      exact hT.1 (List.length_eq_zero_iff.mp hl.symm)
    · rcases List.mem_append.mp hp with q | q
      · rcases List.mem_append.mp q with q | q
        · exact hT.2.2 p (List.mem_of_mem_take q)
        · rw [List.mem_singleton] at q
          subst q
          exact worn_part (hT.2.2 _ (List.mem_of_getElem? h))
      · exact hT.2.2 p (List.mem_of_mem_drop q)
/-- what was shown: part, way, shown -/
abbrev Sn := Int × Int × Int
def dSn (x : Sn) : PyData := .tuple [.int x.1, .int x.2.1, .int x.2.2]
def snOk (n : Nat) (x : Sn) : Prop := 0 ≤ x.1 ∧ x.1 < n ∧ isWay x.2.1 ∧ (x.2.2 = 1 ∨ x.2.2 = -1 ∨ x.2.2 = 0)
def justF (T : List Part) : List Int → List Sn → Bool
  | _, [] => true
  | s, x :: l => if (pushN T s x.1.toNat x.2.1 1).2 = x.2.2 then justF T (pushN T s x.1.toNat x.2.1 1).1 l else false
def explainedF (T : List Part) (s : List Int) (l : List Sn) : List Wear := (wearsF T).filter fun w => justF (wornF T w) s l
theorem pushF_len : ∀ {T : List Part} {s : List Int} {way many : Int}, (pushF T s way many).1.length = s.length
  | [], s, _, _ => by simp [pushF]
  | _ :: _, [], _, _ => by simp [pushF]
  | p :: T, x :: s, way, many => by simp only [pushF, List.length_cons, pushF_len]
theorem pushN_len {T : List Part} {s : List Int} {i : Nat} {way many : Int} : (pushN T s i way many).1.length = s.length := by
  unfold pushN
  rw [List.length_append, pushF_len, List.length_take, List.length_drop]; omega
end Ct

-- W1
set_option Elab.async false
set_option linter.all false
set_option maxRecDepth 100000
set_option maxHeartbeats 1000000
/-! W1: trains.py, def by def (printed by gen2.py from W1.src). -/
namespace Ct
open PySem PySem.Spec L2
theorem small_size {n : Nat} (h : n ≤ 100000) : n < sizeLine := by
  have : sizeLine = 2 ^ 24 := rfl
  omega
theorem eqv_strF {x y : Str} (h : decide (x = y) = false) : PyData.eqv (.str x) (.str y) = false := by rw [eqv_str]; exact h
theorem eqv_strT {x y : Str} (h : decide (x = y) = true) : PyData.eqv (.str x) (.str y) = true := by rw [eqv_str]; exact h
theorem zipD_map {α β : Type} {f : α → PyData} {g : β → PyData} : ∀ (xs : List α) (ys : List β), zipD (xs.map f) (ys.map g) = (xs.zip ys).map fun p => .tuple [f p.1, g p.2]
  | [], _ => rfl
  | _ :: _, [] => rfl
  | x :: xs, y :: ys => by
    have := zipD_map (f := f) (g := g) xs ys
    unfold zipD at this ⊢
    simp only [List.map_cons, List.zip_cons_cons, this]
theorem cutD_tail {xs : List PyData} : cutD xs (some 1) none = xs.tail := by
  cases xs with
  | nil => rfl
  | cons x xs =>
    unfold cutD
    have e1 : HT.sIx (x :: xs).length 0 (some 1) = 1 := by
      unfold HT.sIx
      simp
    have e2 : HT.sIx (x :: xs).length (x :: xs).length none = (x :: xs).length := rfl
    rw [e1, e2]
    simp
theorem zip_tail (ms : List Int) : zipD (ms.map PyData.int) (cutD (ms.map PyData.int) (some 1) none) = (ms.zip ms.tail).map fun p => .tuple [.int p.1, .int p.2] := by
  rw [cutD_tail, ← List.map_tail]
  exact zipD_map ms ms.tail
theorem zip_rising : ∀ {ms : List Int}, ms.Pairwise (· < ·) → ∀ p ∈ ms.zip ms.tail, p.1 < p.2
  | [], _, p, hp => by cases hp
  | [_], _, p, hp => by cases hp
  | a :: b :: ms, h, p, hp => by
    rw [List.pairwise_cons] at h
    rcases List.mem_cons.mp hp with rfl | hp
    · exact h.1 b List.mem_cons_self
    · exact zip_rising h.2 p hp
theorem standOk_zip : ∀ {T : List Part} {s : List Int}, standOk T s → ∀ p ∈ T.zip s, 0 ≤ p.2 ∧ p.2 < places p.1
  | [], _, _, p, hp => by cases hp
  | _ :: _, [], _, p, hp => by cases hp
  | q :: T, x :: s, h, p, hp => by
    rcases List.mem_cons.mp hp with rfl | hp
    · exact h.1
    · exact standOk_zip h.2 p hp
section
variable {P : Program} {w : World} {K : PySem.W.Frag} {mg : Str → Option Value} {base : Heap}
def p_is_whole (ds : List Sl) (r : PyData) : Prop := ∃ i : Int, ds = [D (.int i)] ∧ r = .bool true
/-! is_whole -/
theorem sc_is_whole : FnScope ["thing"] ["thing"] (defScope s_is_whole) := ⟨rfl, rfl, rfl, by decide +kernel, rfl, by decide +kernel, by decide +kernel⟩
theorem ok_is_whole {f  : Addr} {fd : FuncData} (F : FnP K "is_whole" s_is_whole f fd) (hm : mg "is_whole" = some (.ref f)) (B : Frs mg)   : Has P w K mg base 1 "is_whole" ["thing"] p_is_whole f := by
  refine has_of F hm sc_is_whole (fun ds r h => by obtain ⟨i, rfl, rfl⟩ := h; rfl) (fun _ _ _ _ _ _ us hl => match us, hl with | [_], _ => rfl) fun cdv A outer s H E ds r hr hp => ?_
  have hu := hr.u100
  obtain ⟨i, rfl, rfl⟩ := hp
  exact ⟨_, pbd_ret0 (e_andT (pd_isInt B (pd_var 0 rfl)) rfl (e_one (PED.eq (pd_not (pd_isBool B (pd_var 0 rfl))) rfl))), .inl rfl⟩
def p_is_marks (ds : List Sl) (r : PyData) : Prop := ∃ (z : Int) (ms : List Int), ds = [D (.int z), D (.tuple (ms.map .int))] ∧ marksOk z ms ∧ z ≤ 1000 ∧ 0 ≤ z ∧ r = .bool true
/-! is_marks -/
theorem sc_is_marks : FnScope ["teeth", "thing", "mark", "one", "other"] ["teeth", "thing"] (defScope s_is_marks) := ⟨rfl, rfl, rfl, by decide +kernel, rfl, by decide +kernel, by decide +kernel⟩
theorem ok_is_marks {f f_is_whole : Addr} {fd : FuncData} (F : FnP K "is_marks" s_is_marks f fd) (hm : mg "is_marks" = some (.ref f)) (B : Frs mg) (h_is_whole : Has P w K mg base 1 "is_whole" ["thing"] p_is_whole f_is_whole)  : Has P w K mg base 2 "is_marks" ["teeth", "thing"] p_is_marks f := by
  refine has_of F hm sc_is_marks (fun ds r h => by obtain ⟨z, ms, rfl, hk, hz, hz0, rfl⟩ := h; rfl) (fun _ _ _ _ _ _ us hl => match us, hl with | [_, _], _ => rfl) fun cdv A outer s H E ds r hr hp => ?_
  have hu := hr.u100
  obtain ⟨z, ms, rfl, hk, hz, hz0, rfl⟩ := hp
  have hl := hk.len hz0
  apply ends_rt
  refine b_no (ptd_w (w_orF (ptd_not (ptd_val (pd_isTuple B (pd_var 1 rfl)))) rfl (w_or1 (ptd_not (ptd_val (pd_allT [("mark", 2)] ms .int rfl B.all sc_is_marks.nd (pid_tup (pd_var 1 rfl)) (blkOk_by (N := ["teeth", "thing", "mark", "one", "other"]) (own := [("mark", 2)]) (sc := defScope s_is_marks) (by decide +kernel)) (fun x hx => ⟨_, fun _ _ _ _ _ => (pgw_name 2 sc_is_marks.nd), fun _ _ _ _ _ => PED.eq (e_andT (pd_call h_is_whole (hr.mono (by decide)) (pad_cons (pd_var 2 rfl) pad_nil) ⟨x, rfl, rfl⟩) rfl (e_one (PED.eq (pd_chain hu pd_int (pd_var 2 rfl) (pd_var 0 rfl) .le .lt) rfl))) (congrArg PyData.bool ?_), rfl⟩) (small_size (by omega)))))))) rfl ?_
  · have := hk.1 x hx
    simp [this.1, this.2]
  refine b_ret (pd_allT [("one", 3), ("other", 4)] (ms.zip ms.tail) (fun p => .tuple [.int p.1, .int p.2]) rfl B.all sc_is_marks.nd (PID.eq (pid_zip B.zip (pd_var 1 rfl) (pd_slice (pd_var 1 rfl) (pod_some pd_int) pod_none .tup) .tup .tup) (zip_tail ms)) (blkOk_by (N := ["teeth", "thing", "mark", "one", "other"]) (own := [("one", 3), ("other", 4)]) (sc := defScope s_is_marks) (by decide +kernel)) (fun x hx => ⟨_, fun _ _ _ _ _ => (pgw_tup rfl (pgws_cons (pgw_name 3 sc_is_marks.nd) (pgws_cons (pgw_name 4 sc_is_marks.nd) pgws_nil))), fun _ _ _ _ _ => PED.eq (pd_cmp hu (pd_var 3 rfl) (pd_var 4 rfl) .lt) (congrArg PyData.bool (decide_eq_true ?_)), rfl⟩) (small_size ?_)) rfl
  · exact zip_rising hk.2 x hx
  · have := List.length_zip (l₁ := ms) (l₂ := ms.tail)
    omega
def p_is_part (ds : List Sl) (r : PyData) : Prop := ∃ p : Part, ds = [D (dPart p)] ∧ p.ok ∧ r = .bool true
/-! is_part -/
theorem sc_is_part : FnScope ["thing"] ["thing"] (defScope s_is_part) := ⟨rfl, rfl, rfl, by decide +kernel, rfl, by decide +kernel, by decide +kernel⟩
theorem ok_is_part {f f_is_whole f_is_marks : Addr} {fd : FuncData} (F : FnP K "is_part" s_is_part f fd) (hm : mg "is_part" = some (.ref f)) (B : Frs mg) (h_is_whole : Has P w K mg base 1 "is_whole" ["thing"] p_is_whole f_is_whole) (h_is_marks : Has P w K mg base 2 "is_marks" ["teeth", "thing"] p_is_marks f_is_marks)  : Has P w K mg base 3 "is_part" ["thing"] p_is_part f := by
  refine has_of F hm sc_is_part (fun ds r h => by obtain ⟨p, rfl, hk, rfl⟩ := h; rfl) (fun _ _ _ _ _ _ us hl => match us, hl with | [_], _ => rfl) fun cdv A outer s H E ds r hr hp => ?_
  have hu := hr.u100
  obtain ⟨p, rfl, hk, rfl⟩ := hp
  apply ends_rt
  cases p with
  | wheel z ms =>
    obtain ⟨h1, h2, h3⟩ := hk
    refine b_no (ptd_w (w_orF (ptd_not (ptd_val (pd_isTuple B (pd_var 0 rfl)))) rfl (w_orF (ptd_cmp hu (pd_var 0 rfl) (pd_tup (ps := []) pad_nil) (.eq Ly.shp Ly.shp)) (by first | decide +kernel | simp [PyData.eqv, PyData.eqvAll, dPart, eqv_str, eqv_int, places]) (w_or1 (ptd_not (ptd_val (pd_isStr B (pd_ix (pd_var 0 rfl) pd_int (.tup rfl))))))))) rfl ?_
    refine b_no (ptd_cmp hu (pd_ix (pd_var 0 rfl) pd_int (.tup rfl)) (pd_lst (ps := [_, _]) (pad_cons pd_str (pad_cons pd_str pad_nil))) (.inL Ly.shp Ly.shp)) (by first | decide +kernel | simp [PyData.eqv, PyData.eqvAll, dPart, eqv_str, eqv_int, places]) ?_
    refine b_no (ptd_cmp hu (pd_ix (pd_var 0 rfl) pd_int (.tup rfl)) pd_str (.eq Ly.shp Ly.shp)) (by first | decide +kernel | simp [PyData.eqv, PyData.eqvAll, dPart, eqv_str, eqv_int, places]) ?_
    refine b_no (ptd_w (w_orF (ptd_cmp hu (pd_ix (pd_var 0 rfl) pd_int (.tup rfl)) pd_str (.ne Ly.shp Ly.shp)) (by first | decide +kernel | simp [PyData.eqv, PyData.eqvAll, dPart, eqv_str, eqv_int, places]) (w_or1 (ptd_cmp hu (pd_len B.len (pd_var 0 rfl) .tup) pd_int (.ne Ly.shp Ly.shp))))) (by first | decide +kernel | simp [PyData.eqv, PyData.eqvAll, dPart, eqv_str, eqv_int, places]) ?_
    refine b_ret (e_andT (pd_call h_is_whole (hr.mono (by decide)) (pad_cons (pd_ix (pd_var 0 rfl) pd_int (.tup rfl)) pad_nil) ⟨z, rfl, rfl⟩) rfl (e_andT (pd_cmp hu (pd_ix (pd_var 0 rfl) pd_int (.tup rfl)) pd_int .ge) (decide_eq_true h1) (e_one (PED.eq (pd_call h_is_marks (hr.mono (by decide)) (pad_cons (pd_ix (pd_var 0 rfl) pd_int (.tup rfl)) (pad_cons (pd_ix (pd_var 0 rfl) pd_int (.tup rfl)) pad_nil)) ⟨z, ms, rfl, h3, h2, by omega, rfl⟩) rfl)))) rfl
  | click =>
    refine b_no (ptd_w (w_orF (ptd_not (ptd_val (pd_isTuple B (pd_var 0 rfl)))) rfl (w_orF (ptd_cmp hu (pd_var 0 rfl) (pd_tup (ps := []) pad_nil) (.eq Ly.shp Ly.shp)) (by first | decide +kernel | simp [PyData.eqv, PyData.eqvAll, dPart, eqv_str, eqv_int, places]) (w_or1 (ptd_not (ptd_val (pd_isStr B (pd_ix (pd_var 0 rfl) pd_int (.tup rfl))))))))) rfl ?_
    refine b_ifT (ptd_cmp hu (pd_ix (pd_var 0 rfl) pd_int (.tup rfl)) (pd_lst (ps := [_, _]) (pad_cons pd_str (pad_cons pd_str pad_nil))) (.inL Ly.shp Ly.shp)) (by first | decide +kernel | simp [PyData.eqv, PyData.eqvAll, dPart, eqv_str, eqv_int, places]) ?_
    refine b_ret (pd_cmp hu (pd_len B.len (pd_var 0 rfl) .tup) pd_int (.eq Ly.shp Ly.shp)) (by first | decide +kernel | simp [PyData.eqv, PyData.eqvAll, dPart, eqv_str, eqv_int, places])
  | rocker =>
    refine b_no (ptd_w (w_orF (ptd_not (ptd_val (pd_isTuple B (pd_var 0 rfl)))) rfl (w_orF (ptd_cmp hu (pd_var 0 rfl) (pd_tup (ps := []) pad_nil) (.eq Ly.shp Ly.shp)) (by first | decide +kernel | simp [PyData.eqv, PyData.eqvAll, dPart, eqv_str, eqv_int, places]) (w_or1 (ptd_not (ptd_val (pd_isStr B (pd_ix (pd_var 0 rfl) pd_int (.tup rfl))))))))) rfl ?_
    refine b_ifT (ptd_cmp hu (pd_ix (pd_var 0 rfl) pd_int (.tup rfl)) (pd_lst (ps := [_, _]) (pad_cons pd_str (pad_cons pd_str pad_nil))) (.inL Ly.shp Ly.shp)) (by first | decide +kernel | simp [PyData.eqv, PyData.eqvAll, dPart, eqv_str, eqv_int, places]) ?_
    refine b_ret (pd_cmp hu (pd_len B.len (pd_var 0 rfl) .tup) pd_int (.eq Ly.shp Ly.shp)) (by first | decide +kernel | simp [PyData.eqv, PyData.eqvAll, dPart, eqv_str, eqv_int, places])
  | spring k =>
    refine b_no (ptd_w (w_orF (ptd_not (ptd_val (pd_isTuple B (pd_var 0 rfl)))) rfl (w_orF (ptd_cmp hu (pd_var 0 rfl) (pd_tup (ps := []) pad_nil) (.eq Ly.shp Ly.shp)) (by first | decide +kernel | simp [PyData.eqv, PyData.eqvAll, dPart, eqv_str, eqv_int, places]) (w_or1 (ptd_not (ptd_val (pd_isStr B (pd_ix (pd_var 0 rfl) pd_int (.tup rfl))))))))) rfl ?_
    refine b_no (ptd_cmp hu (pd_ix (pd_var 0 rfl) pd_int (.tup rfl)) (pd_lst (ps := [_, _]) (pad_cons pd_str (pad_cons pd_str pad_nil))) (.inL Ly.shp Ly.shp)) (by first | decide +kernel | simp [PyData.eqv, PyData.eqvAll, dPart, eqv_str, eqv_int, places]) ?_
    refine b_ifT (ptd_cmp hu (pd_ix (pd_var 0 rfl) pd_int (.tup rfl)) pd_str (.eq Ly.shp Ly.shp)) (by first | decide +kernel | simp [PyData.eqv, PyData.eqvAll, dPart, eqv_str, eqv_int, places]) ?_
    refine b_ret (e_andT (pd_cmp hu (pd_len B.len (pd_var 0 rfl) .tup) pd_int (.eq Ly.shp Ly.shp)) (by first | decide +kernel | simp [PyData.eqv, PyData.eqvAll, dPart, eqv_str, eqv_int, places]) (e_andT (pd_call h_is_whole (hr.mono (by decide)) (pad_cons (pd_ix (pd_var 0 rfl) pd_int (.tup rfl)) pad_nil) ⟨k, rfl, rfl⟩) rfl (e_one (PED.eq (pd_cmp hu (pd_ix (pd_var 0 rfl) pd_int (.tup rfl)) pd_int .ge) (congrArg PyData.bool (decide_eq_true hk.1)))))) rfl
def p_check_train (ds : List Sl) (r : PyData) : Prop := ∃ T, ds = [D (dTrain T)] ∧ trainOk T ∧ r = .none
/-! check_train -/
theorem sc_check_train : FnScope ["train", "part"] ["train"] (defScope s_check_train) := ⟨rfl, rfl, rfl, by decide +kernel, rfl, by decide +kernel, by decide +kernel⟩
theorem ok_check_train {f f_is_part : Addr} {fd : FuncData} (F : FnP K "check_train" s_check_train f fd) (hm : mg "check_train" = some (.ref f)) (B : Frs mg) (h_is_part : Has P w K mg base 3 "is_part" ["thing"] p_is_part f_is_part)  : Has P w K mg base 4 "check_train" ["train"] p_check_train f := by
  refine has_of F hm sc_check_train (fun ds r h => by obtain ⟨T, rfl, hT, rfl⟩ := h; rfl) (fun _ _ _ _ _ _ us hl => match us, hl with | [_], _ => rfl) fun cdv A outer s H E ds r hr hp => ?_
  have hu := hr.u100
  obtain ⟨T, rfl, hT, rfl⟩ := hp
  apply ends_nx
  refine b_no (ptd_w (w_orF (ptd_not (ptd_val (pd_isList B (pd_var 0 rfl)))) rfl (w_orF (ptd_cmp hu (pd_var 0 rfl) (pd_lst (ps := []) pad_nil) (.eq Ly.shp Ly.shp)) ?_ (w_or1 (ptd_not (ptd_val (pd_allT [("part", 1)] T dPart rfl B.all sc_check_train.nd (pid_list (pd_var 0 rfl)) (blkOk_by (N := ["train", "part"]) (own := [("part", 1)]) (sc := defScope s_check_train) (by decide +kernel)) (fun x hx => ⟨_, fun _ _ _ _ _ => (pgw_name 1 sc_check_train.nd), fun _ _ _ _ _ => PED.eq (pd_call h_is_part (hr.mono (by decide)) (pad_cons (pd_var 1 rfl) pad_nil) ⟨x, rfl, hT.2.2 x hx, rfl⟩) rfl, rfl⟩) (small_size (Nat.le_trans hT.2.1 (by decide)))))))))) rfl pbd_end
  cases T with
  | nil => exact absurd rfl hT.1
  | cons p T => simp [PyData.eqv, PyData.eqvAll, dPart, eqv_str, eqv_int, places]
def p_places (ds : List Sl) (r : PyData) : Prop := ∃ p : Part, ds = [D (dPart p)] ∧ r = .int (places p)
/-! places -/
theorem sc_places : FnScope ["part"] ["part"] (defScope s_places) := ⟨rfl, rfl, rfl, by decide +kernel, rfl, by decide +kernel, by decide +kernel⟩
theorem ok_places {f  : Addr} {fd : FuncData} (F : FnP K "places" s_places f fd) (hm : mg "places" = some (.ref f)) (B : Frs mg)   : Has P w K mg base 1 "places" ["part"] p_places f := by
  refine has_of F hm sc_places (fun ds r h => by obtain ⟨p, rfl, rfl⟩ := h; rfl) (fun _ _ _ _ _ _ us hl => match us, hl with | [_], _ => rfl) fun cdv A outer s H E ds r hr hp => ?_
  have hu := hr.u100
  obtain ⟨p, rfl, rfl⟩ := hp
  apply ends_rt
  cases p with
  | wheel z ms =>
    refine b_ifT (ptd_cmp hu (pd_ix (pd_var 0 rfl) pd_int (.tup rfl)) (pd_lst (ps := [_, _]) (pad_cons pd_str (pad_cons pd_str pad_nil))) (.inL Ly.shp Ly.shp)) (by first | decide +kernel | simp [PyData.eqv, PyData.eqvAll, dPart, eqv_str, eqv_int, places]) ?_
    exact b_ret (pd_ix (pd_var 0 rfl) pd_int (.tup rfl)) rfl
  | click =>
    refine b_no (ptd_cmp hu (pd_ix (pd_var 0 rfl) pd_int (.tup rfl)) (pd_lst (ps := [_, _]) (pad_cons pd_str (pad_cons pd_str pad_nil))) (.inL Ly.shp Ly.shp)) (by first | decide +kernel | simp [PyData.eqv, PyData.eqvAll, dPart, eqv_str, eqv_int, places]) ?_
    exact b_ret (pd_bin pd_int (pd_intB B.int (pd_cmp hu (pd_ix (pd_var 0 rfl) pd_int (.tup rfl)) pd_str (.eq Ly.shp Ly.shp))) .addI) (congrArg PyData.int (by decide +kernel))
  | rocker =>
    refine b_no (ptd_cmp hu (pd_ix (pd_var 0 rfl) pd_int (.tup rfl)) (pd_lst (ps := [_, _]) (pad_cons pd_str (pad_cons pd_str pad_nil))) (.inL Ly.shp Ly.shp)) (by first | decide +kernel | simp [PyData.eqv, PyData.eqvAll, dPart, eqv_str, eqv_int, places]) ?_
    exact b_ret (pd_bin pd_int (pd_intB B.int (pd_cmp hu (pd_ix (pd_var 0 rfl) pd_int (.tup rfl)) pd_str (.eq Ly.shp Ly.shp))) .addI) (congrArg PyData.int (by decide +kernel))
  | spring k =>
    refine b_ifT (ptd_cmp hu (pd_ix (pd_var 0 rfl) pd_int (.tup rfl)) (pd_lst (ps := [_, _]) (pad_cons pd_str (pad_cons pd_str pad_nil))) (.inL Ly.shp Ly.shp)) (by first | decide +kernel | simp [PyData.eqv, PyData.eqvAll, dPart, eqv_str, eqv_int, places]) ?_
    exact b_ret (pd_ix (pd_var 0 rfl) pd_int (.tup rfl)) rfl
def p_is_stand (ds : List Sl) (r : PyData) : Prop := ∃ T s, ds = [D (dTrain T), D (dStand s)] ∧ trainOk T ∧ standOk T s ∧ r = .bool true
/-! is_stand -/
theorem sc_is_stand : FnScope ["train", "thing", "part", "place"] ["train", "thing"] (defScope s_is_stand) := ⟨rfl, rfl, rfl, by decide +kernel, rfl, by decide +kernel, by decide +kernel⟩
theorem ok_is_stand {f f_is_whole f_places : Addr} {fd : FuncData} (F : FnP K "is_stand" s_is_stand f fd) (hm : mg "is_stand" = some (.ref f)) (B : Frs mg) (h_is_whole : Has P w K mg base 1 "is_whole" ["thing"] p_is_whole f_is_whole) (h_places : Has P w K mg base 1 "places" ["part"] p_places f_places)  : Has P w K mg base 2 "is_stand" ["train", "thing"] p_is_stand f := by
  refine has_of F hm sc_is_stand (fun ds r h => by obtain ⟨T, st, rfl, hT, hs, rfl⟩ := h; rfl) (fun _ _ _ _ _ _ us hl => match us, hl with | [_, _], _ => rfl) fun cdv A outer s H E ds r hr hp => ?_
  have hu := hr.u100
  obtain ⟨T, st, rfl, hT, hs, rfl⟩ := hp
  apply ends_rt
  have hl := hs.len
  have hl2 := hT.2.1
  refine b_no (ptd_w (w_orF (ptd_not (ptd_val (pd_isTuple B (pd_var 1 rfl)))) rfl (w_or1 (ptd_cmp hu (pd_len B.len (pd_var 1 rfl) .tup) (pd_len B.len (pd_var 0 rfl) .lst) (.ne Ly.shp Ly.shp))))) (by simp [eqv_int, hl]) ?_
  refine b_ret (pd_allT [("part", 2), ("place", 3)] (T.zip st) (fun p => .tuple [dPart p.1, .int p.2]) rfl B.all sc_is_stand.nd (PID.eq (pid_zip B.zip (pd_var 0 rfl) (pd_var 1 rfl) .lst .tup) (zipD_map T st)) (blkOk_by (N := ["train", "thing", "part", "place"]) (own := [("part", 2), ("place", 3)]) (sc := defScope s_is_stand) (by decide +kernel)) (fun x hx => ⟨_, fun _ _ _ _ _ => (pgw_tup rfl (pgws_cons (pgw_name 2 sc_is_stand.nd) (pgws_cons (pgw_name 3 sc_is_stand.nd) pgws_nil))), fun _ _ _ _ _ => PED.eq (e_andT (pd_call h_is_whole (hr.mono (by decide)) (pad_cons (pd_var 3 rfl) pad_nil) ⟨x.2, rfl, rfl⟩) rfl (e_one (PED.eq (pd_chain hu pd_int (pd_var 3 rfl) (pd_call h_places (hr.mono (by decide)) (pad_cons (pd_var 2 rfl) pad_nil) ⟨x.1, rfl, rfl⟩) .le .lt) (congrArg PyData.bool ?_)))) rfl, rfl⟩) (small_size ?_)) rfl
  · have := standOk_zip hs x hx
    simp [this.1, this.2]
  · have := List.length_zip (l₁ := T) (l₂ := st)
    omega
def p_check_stand (ds : List Sl) (r : PyData) : Prop := ∃ T s, ds = [D (dTrain T), D (dStand s)] ∧ trainOk T ∧ standOk T s ∧ r = .none
/-! check_stand -/
theorem sc_check_stand : FnScope ["train", "stand"] ["train", "stand"] (defScope s_check_stand) := ⟨rfl, rfl, rfl, by decide +kernel, rfl, by decide +kernel, by decide +kernel⟩
theorem ok_check_stand {f f_check_train f_is_stand : Addr} {fd : FuncData} (F : FnP K "check_stand" s_check_stand f fd) (hm : mg "check_stand" = some (.ref f)) (B : Frs mg) (h_check_train : Has P w K mg base 4 "check_train" ["train"] p_check_train f_check_train) (h_is_stand : Has P w K mg base 2 "is_stand" ["train", "thing"] p_is_stand f_is_stand)  : Has P w K mg base 5 "check_stand" ["train", "stand"] p_check_stand f := by
  refine has_of F hm sc_check_stand (fun ds r h => by obtain ⟨T, st, rfl, hT, hs, rfl⟩ := h; rfl) (fun _ _ _ _ _ _ us hl => match us, hl with | [_, _], _ => rfl) fun cdv A outer s H E ds r hr hp => ?_
  have hu := hr.u100
  obtain ⟨T, st, rfl, hT, hs, rfl⟩ := hp
  apply ends_nx
  refine pbd_drop (pd_call h_check_train (hr.mono (by decide)) (pad_cons (pd_var 0 rfl) pad_nil) ⟨T, rfl, hT, rfl⟩) ?_
  exact b_no (ptd_not (ptd_val (pd_call h_is_stand (hr.mono (by decide)) (pad_cons (pd_var 0 rfl) (pad_cons (pd_var 1 rfl) pad_nil)) ⟨T, st, rfl, hT, hs, rfl⟩))) rfl pbd_end
end
end Ct

-- W2
set_option Elab.async false
set_option linter.all false
set_option maxRecDepth 100000
set_option maxHeartbeats 1000000
/-! W2: trains.py: pushes (printed by gen2.py from W2.src). -/
namespace Ct
open PySem PySem.Spec L2
theorem atI_map {α : Type} {f : α → PyData} {xs : List α} {j : Nat} {x : α} (h : xs[j]? = some x) : atI (xs.map f) (j : Int) = some (f x) := atI_nat (by rw [List.getElem?_map, h]; rfl)
theorem ixN_nat {n j : Nat} (h : j < n) : ixN n (j : Int) = some j := by
  unfold ixN
  rw [if_pos (by omega), if_pos (by omega)]; simp
section
variable {P : Program} {w : World} {K : PySem.W.Frag} {mg : Str → Option Value} {base : Heap}
def p_marks_met (ds : List Sl) (r : PyData) : Prop := ∃ (z : Int) (ms : List Int) (x n : Int), ds = [D (dPart (.wheel z ms)), D (.int x), D (.int n)] ∧ 1 ≤ z ∧ z ≤ 1000 ∧ (ms.length : Int) ≤ z ∧ r = .int (wmet z ms x n)
/-! marks_met -/
theorem sc_marks_met : FnScope ["part", "place", "many", "teeth", "told", "rest", "mark"] ["part", "place", "many"] (defScope s_marks_met) := ⟨rfl, rfl, rfl, by decide +kernel, rfl, by decide +kernel, by decide +kernel⟩
theorem ok_marks_met {f  : Addr} {fd : FuncData} (F : FnP K "marks_met" s_marks_met f fd) (hm : mg "marks_met" = some (.ref f)) (B : Frs mg)   : Has P w K mg base 1 "marks_met" ["part", "place", "many"] p_marks_met f := by
  refine has_of F hm sc_marks_met (fun ds r h => by obtain ⟨z, ms, x0, n, rfl, h1, h2, h3, rfl⟩ := h; rfl) (fun _ _ _ _ _ _ us hl => match us, hl with | [_, _, _], _ => rfl) fun cdv A outer s H E ds r hr hp => ?_
  have hu := hr.u100
  obtain ⟨z, ms, x0, n, rfl, h1, h2, h3, rfl⟩ := hp
  apply ends_rt
  refine pbd_set 3 sc_marks_met.nd (pd_ix (pd_var 0 rfl) pd_int (.tup rfl)) ?_
  refine pbd_set 4 sc_marks_met.nd (pd_bin (pd_bin (pd_var 2 rfl) (pd_var 3 rfl) (.divI ⟨by omega, by omega⟩)) (pd_len B.len (pd_ix (pd_var 0 rfl) pd_int (.tup rfl)) .tup) (.mulI (by unfold CMul; simp only [List.length_map]; omega))) ?_
  refine pbd_set 5 sc_marks_met.nd (pd_bin (pd_var 2 rfl) (pd_var 3 rfl) (.modI (by omega))) ?_
  refine b_ret (pd_bin (pd_var 4 rfl) (pd_len B.len (pd_lcM [("mark", 6)] ms .int .int (fun m => decide (0 < (m - x0 - 1) % z + 1) && decide ((m - x0 - 1) % z + 1 ≤ n % z)) rfl sc_marks_met.nd (pid_tup (pd_ix (pd_var 0 rfl) pd_int (.tup rfl))) (blkOk_by (N := ["part", "place", "many", "teeth", "told", "rest", "mark"]) (own := [("mark", 6)]) (sc := defScope s_marks_met) (by decide +kernel)) (fun x hx => ⟨_, fun _ _ _ _ _ => (pgw_name 6 sc_marks_met.nd), fun _ _ _ _ _ => ptsd_one (PTD.eq (ptd_chain hu pd_int (pd_bin (pd_bin (pd_bin (pd_bin (pd_var 6 rfl) (pd_var 1 rfl) .subI) pd_int .subI) (pd_var 3 rfl) (.modI (by omega))) pd_int .addI) (pd_var 5 rfl) .lt .le) rfl), fun hx2 _ _ _ _ _ => PED.eq (pd_var 6 rfl) rfl, rfl⟩) (small_size (by omega))) .lst) .addI) (congrArg PyData.int ?_)
  unfold wmet
  rw [List.length_map, List.length_map]
def p_marks_left (ds : List Sl) (r : PyData) : Prop := ∃ (z : Int) (ms : List Int) (x n : Int), ds = [D (dPart (.wheel z ms)), D (.int x), D (.int n)] ∧ 1 ≤ z ∧ z ≤ 1000 ∧ (ms.length : Int) ≤ z ∧ r = .int (wleft z ms x n)
/-! marks_left -/
theorem sc_marks_left : FnScope ["part", "place", "many", "teeth", "told", "rest", "mark"] ["part", "place", "many"] (defScope s_marks_left) := ⟨rfl, rfl, rfl, by decide +kernel, rfl, by decide +kernel, by decide +kernel⟩
theorem ok_marks_left {f  : Addr} {fd : FuncData} (F : FnP K "marks_left" s_marks_left f fd) (hm : mg "marks_left" = some (.ref f)) (B : Frs mg)   : Has P w K mg base 1 "marks_left" ["part", "place", "many"] p_marks_left f := by
  refine has_of F hm sc_marks_left (fun ds r h => by obtain ⟨z, ms, x0, n, rfl, h1, h2, h3, rfl⟩ := h; rfl) (fun _ _ _ _ _ _ us hl => match us, hl with | [_, _, _], _ => rfl) fun cdv A outer s H E ds r hr hp => ?_
  have hu := hr.u100
  obtain ⟨z, ms, x0, n, rfl, h1, h2, h3, rfl⟩ := hp
  apply ends_rt
  refine pbd_set 3 sc_marks_left.nd (pd_ix (pd_var 0 rfl) pd_int (.tup rfl)) ?_
  refine pbd_set 4 sc_marks_left.nd (pd_bin (pd_bin (pd_var 2 rfl) (pd_var 3 rfl) (.divI ⟨by omega, by omega⟩)) (pd_len B.len (pd_ix (pd_var 0 rfl) pd_int (.tup rfl)) .tup) (.mulI (by unfold CMul; simp only [List.length_map]; omega))) ?_
  refine pbd_set 5 sc_marks_left.nd (pd_bin (pd_var 2 rfl) (pd_var 3 rfl) (.modI (by omega))) ?_
  refine b_ret (pd_bin (pd_var 4 rfl) (pd_len B.len (pd_lcM [("mark", 6)] ms .int .int (fun m => decide ((x0 - m) % z < n % z)) rfl sc_marks_left.nd (pid_tup (pd_ix (pd_var 0 rfl) pd_int (.tup rfl))) (blkOk_by (N := ["part", "place", "many", "teeth", "told", "rest", "mark"]) (own := [("mark", 6)]) (sc := defScope s_marks_left) (by decide +kernel)) (fun x hx => ⟨_, fun _ _ _ _ _ => (pgw_name 6 sc_marks_left.nd), fun _ _ _ _ _ => ptsd_one (PTD.eq (ptd_cmp hu (pd_bin (pd_bin (pd_var 1 rfl) (pd_var 6 rfl) .subI) (pd_var 3 rfl) (.modI (by omega))) (pd_var 5 rfl) .lt) rfl), fun hx2 _ _ _ _ _ => PED.eq (pd_var 6 rfl) rfl, rfl⟩) (small_size (by omega))) .lst) .addI) (congrArg PyData.int ?_)
  unfold wleft
  rw [List.length_map, List.length_map]
def p_part_pushed (ds : List Sl) (r : PyData) : Prop := ∃ (p : Part) (x way n : Int), ds = [D (dPart p), D (.int x), D (.int way), D (.int n)] ∧ p.ok ∧ isWay way ∧ r = .tuple [.int (ppush p x way n).1, .int (ppush p x way n).2]
/-! part_pushed -/
theorem sc_part_pushed : FnScope ["part", "place", "way", "many", "given"] ["part", "place", "way", "many"] (defScope s_part_pushed) := ⟨rfl, rfl, rfl, by decide +kernel, rfl, by decide +kernel, by decide +kernel⟩
theorem ok_part_pushed {f f_marks_left f_marks_met : Addr} {fd : FuncData} (F : FnP K "part_pushed" s_part_pushed f fd) (hm : mg "part_pushed" = some (.ref f)) (B : Frs mg) (h_marks_left : Has P w K mg base 1 "marks_left" ["part", "place", "many"] p_marks_left f_marks_left) (h_marks_met : Has P w K mg base 1 "marks_met" ["part", "place", "many"] p_marks_met f_marks_met)  : Has P w K mg base 2 "part_pushed" ["part", "place", "way", "many"] p_part_pushed f := by
  refine has_of F hm sc_part_pushed (fun ds r h => by obtain ⟨p, x0, wy, n, rfl, hp, hw, rfl⟩ := h; rfl) (fun _ _ _ _ _ _ us hl => match us, hl with | [_, _, _, _], _ => rfl) fun cdv A outer s H E ds r hr hp => ?_
  have hu := hr.u100
  obtain ⟨p, x0, wy, n, rfl, hp, hw, rfl⟩ := hp
  apply ends_rt
  cases p with
  | wheel z ms =>
    obtain ⟨h1, h2, h3⟩ := hp
    have hl := h3.len (by omega)
    refine b_ifT (ptd_cmp hu (pd_ix (pd_var 0 rfl) pd_int (.tup rfl)) pd_str (.eq Ly.shp Ly.shp)) (by first | decide +kernel | simp [PyData.eqv, PyData.eqvAll, dPart, eqv_str, eqv_int, places]) ?_
    refine pbd_set 4 sc_part_pushed.nd (pd_call h_marks_left (hr.mono (by decide)) (pad_cons (pd_var 0 rfl) (pad_cons (pd_var 1 rfl) (pad_cons (pd_var 3 rfl) pad_nil))) ⟨z, ms, x0, n, rfl, h1, h2, hl, rfl⟩) ?_
    by_cases hk : wy = 1
    · subst hk
      refine b_ifT (ptd_cmp hu (pd_var 2 rfl) pd_int (.eq Ly.shp Ly.shp)) rfl ?_
      refine pbd_set 4 sc_part_pushed.nd (pd_call h_marks_met (hr.mono (by decide)) (pad_cons (pd_var 0 rfl) (pad_cons (pd_var 1 rfl) (pad_cons (pd_var 3 rfl) pad_nil))) ⟨z, ms, x0, n, rfl, h1, h2, hl, rfl⟩) ?_
      refine pbd_pop ?_
      exact b_ret (pd_tup (ps := [_, _]) (pad_cons (pd_bin (pd_bin (pd_var 1 rfl) (pd_bin (pd_var 2 rfl) (pd_var 3 rfl) (.mulI (by unfold CMul; omega))) .addI) (pd_ix (pd_var 0 rfl) pd_int (.tup rfl)) (.modI (by omega))) (pad_cons (pd_var 4 rfl) pad_nil))) rfl
    · refine b_no (ptd_cmp hu (pd_var 2 rfl) pd_int (.eq Ly.shp Ly.shp)) (by rw [eqv_int]; exact decide_eq_false hk) ?_
      refine b_ret (pd_tup (ps := [_, _]) (pad_cons (pd_bin (pd_bin (pd_var 1 rfl) (pd_bin (pd_var 2 rfl) (pd_var 3 rfl) (.mulI (by unfold CMul; rcases hw with h | h <;> omega))) .addI) (pd_ix (pd_var 0 rfl) pd_int (.tup rfl)) (.modI (by omega))) (pad_cons (pd_var 4 rfl) pad_nil))) ?_
      show PyData.tuple [_, _] = PyData.tuple [_, .int (if wy = 1 then wmet z ms x0 n else wleft z ms x0 n)]
      rw [if_neg hk]
      rfl
  | click =>
    refine b_no (ptd_cmp hu (pd_ix (pd_var 0 rfl) pd_int (.tup rfl)) pd_str (.eq Ly.shp Ly.shp)) (by first | decide +kernel | simp [PyData.eqv, PyData.eqvAll, dPart, eqv_str, eqv_int, places]) ?_
    refine b_ifT (ptd_cmp hu (pd_ix (pd_var 0 rfl) pd_int (.tup rfl)) pd_str (.eq Ly.shp Ly.shp)) (by first | decide +kernel | simp [PyData.eqv, PyData.eqvAll, dPart, eqv_str, eqv_int, places]) ?_
    refine b_ret (pd_tup (ps := [_, _]) (pad_cons pd_int (pad_cons (pd_bin (pd_var 3 rfl) (pd_intB B.int (pd_cmp hu (pd_var 2 rfl) pd_int (.eq Ly.shp Ly.shp))) (.mulI (by unfold CMul; split <;> omega))) pad_nil))) ?_
    simp [ppush, eqv_int]
  | rocker =>
    refine b_no (ptd_cmp hu (pd_ix (pd_var 0 rfl) pd_int (.tup rfl)) pd_str (.eq Ly.shp Ly.shp)) (by first | decide +kernel | simp [PyData.eqv, PyData.eqvAll, dPart, eqv_str, eqv_int, places]) ?_
    refine b_no (ptd_cmp hu (pd_ix (pd_var 0 rfl) pd_int (.tup rfl)) pd_str (.eq Ly.shp Ly.shp)) (by first | decide +kernel | simp [PyData.eqv, PyData.eqvAll, dPart, eqv_str, eqv_int, places]) ?_
    refine b_ifT (ptd_cmp hu (pd_ix (pd_var 0 rfl) pd_int (.tup rfl)) pd_str (.eq Ly.shp Ly.shp)) (by first | decide +kernel | simp [PyData.eqv, PyData.eqvAll, dPart, eqv_str, eqv_int, places]) ?_
    by_cases hn : n = 0
    · subst hn
      refine b_ifT (ptd_cmp hu (pd_var 3 rfl) pd_int (.eq Ly.shp Ly.shp)) rfl ?_
      exact b_ret (pd_tup (ps := [_, _]) (pad_cons (pd_var 1 rfl) (pad_cons pd_int pad_nil))) rfl
    · refine b_no (ptd_cmp hu (pd_var 3 rfl) pd_int (.eq Ly.shp Ly.shp)) (by rw [eqv_int]; exact decide_eq_false hn) ?_
      refine b_ret (pd_tup (ps := [_, _]) (pad_cons (pd_intB B.int (pd_cmp hu (pd_var 2 rfl) pd_int (.eq Ly.shp Ly.shp))) (pad_cons (pd_intB B.int (pd_and (pd_cmp hu (pd_var 2 rfl) pd_int (.eq Ly.shp Ly.shp)) fun _ => (pd_one (pd_cmp hu (pd_var 1 rfl) pd_int (.eq Ly.shp Ly.shp))))) pad_nil))) ?_
      simp [ppush, eqv_int, hn]
  | spring k =>
    obtain ⟨h1, h2⟩ := hp
    refine b_no (ptd_cmp hu (pd_ix (pd_var 0 rfl) pd_int (.tup rfl)) pd_str (.eq Ly.shp Ly.shp)) (by first | decide +kernel | simp [PyData.eqv, PyData.eqvAll, dPart, eqv_str, eqv_int, places]) ?_
    refine b_no (ptd_cmp hu (pd_ix (pd_var 0 rfl) pd_int (.tup rfl)) pd_str (.eq Ly.shp Ly.shp)) (by first | decide +kernel | simp [PyData.eqv, PyData.eqvAll, dPart, eqv_str, eqv_int, places]) ?_
    refine b_no (ptd_cmp hu (pd_ix (pd_var 0 rfl) pd_int (.tup rfl)) pd_str (.eq Ly.shp Ly.shp)) (by first | decide +kernel | simp [PyData.eqv, PyData.eqvAll, dPart, eqv_str, eqv_int, places]) ?_
    by_cases hk : wy = 1
    · subst hk
      refine b_ifT (ptd_cmp hu (pd_var 2 rfl) pd_int (.eq Ly.shp Ly.shp)) rfl ?_
      exact b_ret (pd_tup (ps := [_, _]) (pad_cons (pd_bin (pd_bin (pd_var 1 rfl) (pd_var 3 rfl) .addI) (pd_ix (pd_var 0 rfl) pd_int (.tup rfl)) (.modI (by omega))) (pad_cons (pd_bin (pd_bin (pd_var 1 rfl) (pd_var 3 rfl) .addI) (pd_ix (pd_var 0 rfl) pd_int (.tup rfl)) (.divI ⟨by omega, by omega⟩)) pad_nil))) rfl
    · refine b_no (ptd_cmp hu (pd_var 2 rfl) pd_int (.eq Ly.shp Ly.shp)) (by rw [eqv_int]; exact decide_eq_false hk) ?_
      refine b_ret (pd_tup (ps := [_, _]) (pad_cons (pd_max2 rfl B.max pd_int (pd_bin (pd_var 1 rfl) (pd_var 3 rfl) .subI)) (pad_cons pd_int pad_nil))) ?_
      simp [ppush, hk]
end
end Ct

-- W3
set_option Elab.async false
set_option linter.all false
set_option maxRecDepth 100000
set_option maxHeartbeats 1000000
/-! W3: trains.py: pushes through a train, the count of stands; rows.py (printed by gen2.py from W3.src). -/
namespace Ct
open PySem PySem.Spec L2
theorem upto_at {lo : Int} {n i : Nat} {d : PyData} (h : (upto lo n)[i]? = some d) : i < n ∧ d = .int (lo + (i : Int)) := by
  have hi := (List.getElem?_eq_some_iff.mp h).1
  unfold upto at hi h
  rw [List.length_map, List.length_range] at hi
  rw [List.getElem?_map, List.getElem?_range hi] at h
  cases h
  exact ⟨hi, rfl⟩
theorem upto_len {lo : Int} {n : Nat} : (upto lo n).length = n := by unfold upto; simp
section
variable {P : Program} {w : World} {K : PySem.W.Frag} {mg : Str → Option Value} {base : Heap}
def p_pushed_often (ds : List Sl) (r : PyData) : Prop := ∃ (T : List Part) (s : List Int) (i : Nat) (way n : Int), ds = [D (dTrain T), D (dStand s), D (.int i), D (.int way), D (.int n)] ∧ trainOk T ∧ s.length = T.length ∧ i ≤ T.length ∧ isWay way ∧ r = .tuple [dStand (pushN T s i way n).1, .int (pushN T s i way n).2]
/-! pushed_often -/
theorem sc_pushed_often : FnScope ["train", "stand", "i", "way", "many", "told", "at"] ["train", "stand", "i", "way", "many"] (defScope s_pushed_often) := ⟨rfl, rfl, rfl, by decide +kernel, rfl, by decide +kernel, by decide +kernel⟩
theorem ok_pushed_often {f f_part_pushed : Addr} {fd : FuncData} (F : FnP K "pushed_often" s_pushed_often f fd) (hm : mg "pushed_often" = some (.ref f)) (B : Frs mg) (h_part_pushed : Has P w K mg base 2 "part_pushed" ["part", "place", "way", "many"] p_part_pushed f_part_pushed)  : Has P w K mg base 3 "pushed_often" ["train", "stand", "i", "way", "many"] p_pushed_often f := by
  refine has_of F hm sc_pushed_often (fun ds r h => by obtain ⟨T, s, i, wy, n, rfl, hT, hl, hi, hw, rfl⟩ := h; rfl) (fun _ _ _ _ _ _ us hl => match us, hl with | [_, _, _, _, _], _ => rfl) fun cdv A outer s H E ds r hr hp => ?_
  have hu := hr.u100
  obtain ⟨T, s, i, wy, n, rfl, hT, hl, hi, hw, rfl⟩ := hp
  apply ends_rt
  have hl2 := hT.2.1
  refine pbd_own 5 sc_pushed_often.nd (pn_list B.list (pd_var 1 rfl) .tup) ?_
  have hb : (T.map dPart).length = T.length := List.length_map ..
  refine pbd_for rfl (pid_range2 B.range (pd_var 2 rfl) (pd_len B.len (pd_var 0 rfl) .lst) (by rw [hb]; omega)) (fun k δ => ∃ (a : List Int) (m : Int) (sl : Sl), δ = [D (dTrain T), D (dStand s), D (.int i), D (.int wy), D (.int m), .lst ((a ++ s.drop (i + k)).map .int), sl] ∧ a.length = i + k ∧
      pushF (T.drop i) (s.drop i) wy n = (a.drop i ++ (pushF (T.drop (i + k)) (s.drop (i + k)) wy m).1, (pushF (T.drop (i + k)) (s.drop (i + k)) wy m).2) ∧ a.take i = s.take i) ?_ (fun k d δa hd hI => ?_) (fun δa hI => ?_)
  · refine ⟨s.take i, n, .any, ?_, ?_, ?_, ?_⟩
    · rw [Nat.add_zero, List.take_append_drop]; rfl
    · rw [List.length_take]; omega
    · rw [Nat.add_zero, List.drop_of_length_le (l := s.take i) (by rw [List.length_take]; omega), List.nil_append]
    · rw [List.take_take, Nat.min_self]
  · obtain ⟨a, m, sl, rfl, ha, hp, ht⟩ := hI
    obtain ⟨hk, rfl⟩ := upto_at hd
    rw [hb] at hk
    have hk' : i + k < T.length := by omega
    have eT : T.drop (i + k) = T[i + k] :: T.drop (i + (k + 1)) := List.drop_eq_getElem_cons hk'
    have eS : s.drop (i + k) = s[i + k] :: s.drop (i + (k + 1)) := List.drop_eq_getElem_cons (by omega)
    have gT : T[i + k]? = some T[i + k] := List.getElem?_eq_getElem hk'
    have gS : (a ++ s.drop (i + k))[i + k]? = some s[i + k] := by
      rw [List.getElem?_append_right (by omega), ha, Nat.sub_self, eS]; rfl
    have hpo := hT.2.2 _ (List.getElem_mem hk')
    have ei : (i : Int) + (k : Int) = ((i + k : Nat) : Int) := by omega
    rw [ei]
    refine ⟨_, _, (pgd_name 6 sc_pushed_often.nd), pbd_asg (pd_call h_part_pushed (hr.mono (by decide)) (pad_cons (pd_ix (pd_var 0 rfl) (pd_var 6 rfl) (.lst (atI_map gT))) (pad_cons (pd_ixO 5 rfl (pd_var 6 rfl) (atI_map gS)) (pad_cons (pd_var 3 rfl) (pad_cons (pd_var 4 rfl) pad_nil)))) ⟨T[i + k], s[i + k], wy, m, rfl, hpo, hw, rfl⟩) (pgd_tup rfl (pgds_cons (pgd_setO 5 rfl (pd_var 6 rfl) (ixN_nat (by rw [List.length_map, List.length_append, ha, List.length_drop]; omega))) (pgds_cons (pgd_name 4 sc_pushed_often.nd) pgds_nil))) pbd_end, ?_⟩
    refine ⟨a ++ [(ppush T[i + k] s[i + k] wy m).1], (ppush T[i + k] s[i + k] wy m).2, D (.int ((i + k : Nat) : Int)), ?_, ?_, ?_, ?_⟩
    · show [_, _, _, _, _, Sl.lst _, _] = _
      congr 6
      rw [← List.map_set]
      congr 2
      rw [List.set_append_right _ _ (by omega), ha, Nat.sub_self, eS, List.set_cons_zero, List.append_assoc]; rfl
    · simp [ha]; omega
    · rw [hp, eT, eS]
      simp only [pushF]
      rw [List.drop_append_of_le_length (by omega), List.append_assoc]; rfl
    · rw [List.take_append_of_le_length (by omega)]; exact ht
  · obtain ⟨a, m, sl, rfl, ha, hp, ht⟩ := hI
    rw [upto_len, hb] at *
    have e0 : i + (((T.length : Nat) : Int) - (i : Int)).toNat = T.length := by omega
    rw [e0] at ha hp ⊢
    rw [List.drop_of_length_le (show s.length ≤ T.length by omega), List.append_nil]
    rw [List.drop_of_length_le (Nat.le_refl T.length), List.drop_of_length_le (show s.length ≤ T.length by omega)] at hp
    simp only [pushF, List.append_nil] at hp
    refine pbd_freeze 5 rfl ?_
    refine b_ret (pd_tup (ps := [_, _]) (pad_cons (pd_tuple B.tuple (pd_var 5 rfl)) (pad_cons (pd_bin (pd_var 3 rfl) (pd_var 4 rfl) (.mulI (by unfold CMul; rcases hw with h | h <;> omega))) pad_nil))) ?_
    have e1 : (pushN T s i wy n).1 = a := by
      unfold pushN
      rw [hp, ← ht]
      exact List.take_append_drop i a
    have e2 : (pushN T s i wy n).2 = wy * m := by
      unfold pushN
      rw [hp]
    rw [e1, e2]
def p_pushed (ds : List Sl) (r : PyData) : Prop := ∃ (T : List Part) (s : List Int) (i : Nat) (way : Int), ds = [D (dTrain T), D (dStand s), D (.int i), D (.int way)] ∧ trainOk T ∧ s.length = T.length ∧ i ≤ T.length ∧ isWay way ∧ r = .tuple [dStand (pushN T s i way 1).1, .int (pushN T s i way 1).2]
/-! pushed -/
theorem sc_pushed : FnScope ["train", "stand", "i", "way"] ["train", "stand", "i", "way"] (defScope s_pushed) := ⟨rfl, rfl, rfl, by decide +kernel, rfl, by decide +kernel, by decide +kernel⟩
theorem ok_pushed {f f_pushed_often : Addr} {fd : FuncData} (F : FnP K "pushed" s_pushed f fd) (hm : mg "pushed" = some (.ref f)) (B : Frs mg) (h_pushed_often : Has P w K mg base 3 "pushed_often" ["train", "stand", "i", "way", "many"] p_pushed_often f_pushed_often)  : Has P w K mg base 4 "pushed" ["train", "stand", "i", "way"] p_pushed f := by
  refine has_of F hm sc_pushed (fun ds r h => by obtain ⟨T, s, i, wy, rfl, hT, hl, hi, hw, rfl⟩ := h; rfl) (fun _ _ _ _ _ _ us hl => match us, hl with | [_, _, _, _], _ => rfl) fun cdv A outer s H E ds r hr hp => ?_
  have hu := hr.u100
  obtain ⟨T, s, i, wy, rfl, hT, hl, hi, hw, rfl⟩ := hp
  exact ends_rt (b_ret (pd_call h_pushed_often (hr.mono (by decide)) (pad_cons (pd_var 0 rfl) (pad_cons (pd_var 1 rfl) (pad_cons (pd_var 2 rfl) (pad_cons (pd_var 3 rfl) (pad_cons pd_int pad_nil))))) ⟨T, s, i, wy, 1, rfl, hT, hl, hi, hw, rfl⟩) rfl)
def countF (T : List Part) : Int := T.foldl (fun a p => a * places p) 1
theorem places_le {p : Part} (h : p.ok) : 1 ≤ places p ∧ places p ≤ 1000 := by
  cases p with
  | wheel z ms => exact ⟨h.1, h.2.1⟩
  | click => exact ⟨by decide, by decide⟩
  | rocker => exact ⟨by decide, by decide⟩
  | spring k => exact h
def p_stand_count (ds : List Sl) (r : PyData) : Prop := ∃ T, ds = [D (dTrain T)] ∧ trainOk T ∧ r = .int (countF T)
/-! stand_count -/
theorem sc_stand_count : FnScope ["train", "told", "part"] ["train"] (defScope s_stand_count) := ⟨rfl, rfl, rfl, by decide +kernel, rfl, by decide +kernel, by decide +kernel⟩
theorem ok_stand_count {f f_check_train f_places : Addr} {fd : FuncData} (F : FnP K "stand_count" s_stand_count f fd) (hm : mg "stand_count" = some (.ref f)) (B : Frs mg) (h_check_train : Has P w K mg base 4 "check_train" ["train"] p_check_train f_check_train) (h_places : Has P w K mg base 1 "places" ["part"] p_places f_places)  : Has P w K mg base 5 "stand_count" ["train"] p_stand_count f := by
  refine has_of F hm sc_stand_count (fun ds r h => by obtain ⟨T, rfl, hT, rfl⟩ := h; rfl) (fun _ _ _ _ _ _ us hl => match us, hl with | [_], _ => rfl) fun cdv A outer s H E ds r hr hp => ?_
  have hu := hr.u100
  obtain ⟨T, rfl, hT, rfl⟩ := hp
  apply ends_rt
  refine pbd_drop (pd_call h_check_train (hr.mono (by decide)) (pad_cons (pd_var 0 rfl) pad_nil) ⟨T, rfl, hT, rfl⟩) ?_
  refine pbd_set 1 sc_stand_count.nd pd_int ?_
  refine pbd_for rfl (pid_list (pd_var 0 rfl)) (fun k δ => ∃ sl : Sl, δ = [D (dTrain T), D (.int ((T.take k).foldl (fun a p => a * places p) 1)), sl]) ?_ (fun k d δa hd hI => ?_) (fun δa hI => ?_)
  · exact ⟨.any, rfl⟩
  · obtain ⟨sl, rfl⟩ := hI
    rw [List.getElem?_map] at hd
    obtain ⟨p, hp, rfl⟩ := Option.map_eq_some_iff.mp hd
    have := places_le (hT.2.2 p (List.mem_of_getElem? hp))
    refine ⟨_, _, (pgd_name 2 sc_stand_count.nd), pbd_set 1 sc_stand_count.nd (pd_bin (pd_var 1 rfl) (pd_call h_places (hr.mono (by decide)) (pad_cons (pd_var 2 rfl) pad_nil) ⟨p, rfl, rfl⟩) (.mulI (by unfold CMul; omega))) pbd_end, D (dPart p), ?_⟩
    rw [List.take_add_one, hp]
    show [_, _, _] = _
    simp only [Option.toList, List.foldl_append, List.foldl_cons, List.foldl_nil]
  · obtain ⟨sl, rfl⟩ := hI
    rw [List.length_map, List.take_length]
    exact b_ret (pd_var 1 rfl) rfl
/-! rows.py -/
def p_is_deed (ds : List Sl) (r : PyData) : Prop := ∃ (T : List Part) (i : Nat) (way n : Int), ds = [D (dTrain T), D (.tuple [.int i, .int way, .int n])] ∧ i < T.length ∧ isWay way ∧ 0 ≤ n ∧ r = .bool true
/-! is_deed -/
theorem sc_is_deed : FnScope ["train", "thing", "number", "i", "way", "times"] ["train", "thing"] (defScope s_is_deed) := ⟨rfl, rfl, rfl, by decide +kernel, rfl, by decide +kernel, by decide +kernel⟩
theorem ok_is_deed {f f_is_whole : Addr} {fd : FuncData} (F : FnP K "is_deed" s_is_deed f fd) (hm : mg "is_deed" = some (.ref f)) (B : Frs mg) (h_is_whole : Has P w K mg base 1 "is_whole" ["thing"] p_is_whole f_is_whole)  : Has P w K mg base 2 "is_deed" ["train", "thing"] p_is_deed f := by
  refine has_of F hm sc_is_deed (fun ds r h => by obtain ⟨T, i, wy, n, rfl, hi, hw, hn, rfl⟩ := h; rfl) (fun _ _ _ _ _ _ us hl => match us, hl with | [_, _], _ => rfl) fun cdv A outer s H E ds r hr hp => ?_
  have hu := hr.u100
  obtain ⟨T, i, wy, n, rfl, hi, hw, hn, rfl⟩ := hp
  apply ends_rt
  refine b_no (ptd_w (w_orF (ptd_not (ptd_val (pd_isTuple B (pd_var 1 rfl)))) rfl (w_orF (ptd_cmp hu (pd_len B.len (pd_var 1 rfl) .tup) pd_int (.ne Ly.shp Ly.shp)) rfl (w_or1 (ptd_not (ptd_val (pd_allT [("number", 2)] ([(i : Int), wy, n]) .int rfl B.all sc_is_deed.nd (pid_tup (pd_var 1 rfl)) (blkOk_by (N := ["train", "thing", "number", "i", "way", "times"]) (own := [("number", 2)]) (sc := defScope s_is_deed) (by decide +kernel)) (fun x hx => ⟨_, fun _ _ _ _ _ => (pgw_name 2 sc_is_deed.nd), fun _ _ _ _ _ => PED.eq (pd_call h_is_whole (hr.mono (by decide)) (pad_cons (pd_var 2 rfl) pad_nil) ⟨x, rfl, rfl⟩) rfl, rfl⟩) (small_size (by show 3 ≤ 100000; decide))))))))) rfl ?_
  refine pbd_asg (pd_var 1 rfl) (pgd_tup rfl (pgds_cons (pgd_name 3 sc_is_deed.nd) (pgds_cons (pgd_name 4 sc_is_deed.nd) (pgds_cons (pgd_name 5 sc_is_deed.nd) pgds_nil)))) ?_
  refine b_ret (e_andT (pd_chain hu pd_int (pd_var 3 rfl) (pd_len B.len (pd_var 0 rfl) .lst) .le .lt) ?_ (e_andT (pd_cmp hu (pd_var 4 rfl) (pd_lst (ps := [_, _]) (pad_cons pd_int (pad_cons (pd_bin pd_int pd_int .subI) pad_nil))) (.inL Ly.shp Ly.shp)) ?_ (e_one (PED.eq (pd_cmp hu (pd_var 5 rfl) pd_int .ge) (congrArg PyData.bool (decide_eq_true hn)))))) rfl
  · simp [hi]
  · rcases hw with rfl | rfl <;> rfl
def dDeed (d : Int × Int × Int) : PyData := .tuple [.int d.1, .int d.2.1, .int d.2.2]
def deedOk (T : List Part) (d : Int × Int × Int) : Prop := 0 ≤ d.1 ∧ d.1 < T.length ∧ isWay d.2.1 ∧ 0 ≤ d.2.2
def p_check_row (ds : List Sl) (r : PyData) : Prop := ∃ (T : List Part) (R : List (Int × Int × Int)), ds = [D (dTrain T), D (.list (R.map dDeed))] ∧ R.length ≤ 100 ∧ (∀ d ∈ R, deedOk T d) ∧ r = .none
/-! check_row -/
theorem sc_check_row : FnScope ["train", "row", "deed"] ["train", "row"] (defScope s_check_row) := ⟨rfl, rfl, rfl, by decide +kernel, rfl, by decide +kernel, by decide +kernel⟩
theorem ok_check_row {f f_is_deed : Addr} {fd : FuncData} (F : FnP K "check_row" s_check_row f fd) (hm : mg "check_row" = some (.ref f)) (B : Frs mg) (h_is_deed : Has P w K mg base 2 "is_deed" ["train", "thing"] p_is_deed f_is_deed)  : Has P w K mg base 3 "check_row" ["train", "row"] p_check_row f := by
  refine has_of F hm sc_check_row (fun ds r h => by obtain ⟨T, R, rfl, hl, hR, rfl⟩ := h; rfl) (fun _ _ _ _ _ _ us hl => match us, hl with | [_, _], _ => rfl) fun cdv A outer s H E ds r hr hp => ?_
  have hu := hr.u100
  obtain ⟨T, R, rfl, hl, hR, rfl⟩ := hp
  apply ends_nx
  refine b_no (ptd_w (w_orF (ptd_not (ptd_val (pd_isList B (pd_var 1 rfl)))) rfl (w_or1 (ptd_not (ptd_val (pd_allT [("deed", 2)] R dDeed rfl B.all sc_check_row.nd (pid_list (pd_var 1 rfl)) (blkOk_by (N := ["train", "row", "deed"]) (own := [("deed", 2)]) (sc := defScope s_check_row) (by decide +kernel)) (fun x hx => ⟨_, fun _ _ _ _ _ => (pgw_name 2 sc_check_row.nd), fun _ _ _ _ _ => PED.eq (pd_call h_is_deed (hr.mono (by decide)) (pad_cons (pd_var 0 rfl) (pad_cons (pd_var 2 rfl) pad_nil)) ⟨T, x.1.toNat, x.2.1, x.2.2, ?_, ?_, (hR x hx).2.2.1, (hR x hx).2.2.2, rfl⟩) rfl, rfl⟩) (small_size (by omega)))))))) rfl pbd_end
  · have h := (hR x hx).1
    show [_, D (.tuple [_, _, _])] = _
    rw [Int.toNat_of_nonneg h]
  · have h := hR x hx
    have h1 := h.1
    have h2 := h.2.1
    omega
def walkF (T : List Part) : List (Int × Int × Int) → List Int → Int → List Int × Int
  | [], s, a => (s, a)
  | d :: R, s, a => walkF T R (pushN T s d.1.toNat d.2.1 d.2.2).1 (a + (pushN T s d.1.toNat d.2.1 d.2.2).2)
theorem walkF_app (T : List Part) : ∀ (R R' : List (Int × Int × Int)) (s : List Int) (a : Int), walkF T (R ++ R') s a = walkF T R' (walkF T R s a).1 (walkF T R s a).2
  | [], _, _, _ => rfl
  | d :: R, R', s, a => walkF_app T R R' _ _
theorem walkF_ok {T : List Part} (hT : ∀ p ∈ T, p.ok) : ∀ {R : List (Int × Int × Int)} {s : List Int} {a : Int}, (∀ d ∈ R, deedOk T d) → standOk T s → standOk T (walkF T R s a).1
  | [], _, _, _, hs => hs
  | d :: R, s, a, hR, hs => by
    have h := hR d List.mem_cons_self
    exact walkF_ok hT (R := R) (fun e he => hR e (List.mem_cons_of_mem _ he)) (pushN_ok hT hs h.2.2.1 h.2.2.2)
def p_walked (ds : List Sl) (r : PyData) : Prop := ∃ (T : List Part) (s : List Int) (R : List (Int × Int × Int)), ds = [D (dTrain T), D (dStand s), D (.list (R.map dDeed))] ∧ trainOk T ∧ standOk T s ∧ R.length ≤ 1000 ∧ (∀ d ∈ R, deedOk T d) ∧ r = .tuple [dStand (walkF T R s 0).1, .int (walkF T R s 0).2]
/-! walked -/
theorem sc_walked : FnScope ["train", "stand", "row", "shown", "i", "way", "times", "more"] ["train", "stand", "row"] (defScope s_walked) := ⟨rfl, rfl, rfl, by decide +kernel, rfl, by decide +kernel, by decide +kernel⟩
theorem ok_walked {f f_pushed_often : Addr} {fd : FuncData} (F : FnP K "walked" s_walked f fd) (hm : mg "walked" = some (.ref f)) (B : Frs mg) (h_pushed_often : Has P w K mg base 3 "pushed_often" ["train", "stand", "i", "way", "many"] p_pushed_often f_pushed_often)  : Has P w K mg base 4 "walked" ["train", "stand", "row"] p_walked f := by
  refine has_of F hm sc_walked (fun ds r h => by obtain ⟨T, s, R, rfl, hT, hs, hl, hR, rfl⟩ := h; rfl) (fun _ _ _ _ _ _ us hl => match us, hl with | [_, _, _], _ => rfl) fun cdv A outer s H E ds r hr hp => ?_
  have hu := hr.u100
  obtain ⟨T, s, R, rfl, hT, hs, hl, hR, rfl⟩ := hp
  apply ends_rt
  refine pbd_set 3 sc_walked.nd pd_int ?_
  refine pbd_for rfl (pid_list (pd_var 2 rfl)) (fun k δ => ∃ s1 s2 s3 s4 : Sl, δ = [D (dTrain T), D (dStand (walkF T (R.take k) s 0).1), D (.list (R.map dDeed)), D (.int (walkF T (R.take k) s 0).2), s1, s2, s3, s4]) ?_ (fun k d δa hd hI => ?_) (fun δa hI => ?_)
  · exact ⟨.any, .any, .any, .any, rfl⟩
  · obtain ⟨s1, s2, s3, s4, rfl⟩ := hI
    rw [List.getElem?_map] at hd
    obtain ⟨e, he, rfl⟩ := Option.map_eq_some_iff.mp hd
    have hk := hR e (List.mem_of_getElem? he)
    have hso : standOk T (walkF T (R.take k) s 0).1 := walkF_ok hT.2.2 (fun d hd => hR d (List.mem_of_mem_take hd)) hs
    have h0 : 0 ≤ e.1 := hk.1
    have h1 : e.1 < T.length := hk.2.1
    refine ⟨_, _, (pgd_tup rfl (pgds_cons (pgd_name 4 sc_walked.nd) (pgds_cons (pgd_name 5 sc_walked.nd) (pgds_cons (pgd_name 6 sc_walked.nd) pgds_nil)))), pbd_asg (pd_call h_pushed_often (hr.mono (by decide)) (pad_cons (pd_var 0 rfl) (pad_cons (pd_var 1 rfl) (pad_cons (pd_var 4 rfl) (pad_cons (pd_var 5 rfl) (pad_cons (pd_var 6 rfl) pad_nil))))) ⟨T, (walkF T (R.take k) s 0).1, e.1.toNat, e.2.1, e.2.2, by rw [Int.toNat_of_nonneg h0], hT, hso.len, by omega, hk.2.2.1, rfl⟩) (pgd_tup rfl (pgds_cons (pgd_name 1 sc_walked.nd) (pgds_cons (pgd_name 7 sc_walked.nd) pgds_nil))) (pbd_addI 3 sc_walked.nd rfl (pd_var 7 rfl) pbd_end), D (.int e.1), D (.int e.2.1), D (.int e.2.2), D (.int (pushN T (walkF T (R.take k) s 0).1 e.1.toNat e.2.1 e.2.2).2), ?_⟩
    rw [List.take_add_one, he, walkF_app]
    rfl
  · obtain ⟨s1, s2, s3, s4, rfl⟩ := hI
    rw [List.length_map, List.take_length]
    exact b_ret (pd_tup (ps := [_, _]) (pad_cons (pd_var 1 rfl) (pad_cons (pd_var 3 rfl) pad_nil))) rfl
def p_left (ds : List Sl) (r : PyData) : Prop := ∃ (T : List Part) (s : List Int) (R : List (Int × Int × Int)), ds = [D (dTrain T), D (dStand s), D (.list (R.map dDeed))] ∧ trainOk T ∧ standOk T s ∧ R.length ≤ 100 ∧ (∀ d ∈ R, deedOk T d) ∧ r = .tuple [dStand (walkF T R s 0).1, .int (walkF T R s 0).2]
/-! left -/
theorem sc_left : FnScope ["train", "stand", "row"] ["train", "stand", "row"] (defScope s_left) := ⟨rfl, rfl, rfl, by decide +kernel, rfl, by decide +kernel, by decide +kernel⟩
theorem ok_left {f f_check_stand f_check_row f_walked : Addr} {fd : FuncData} (F : FnP K "left" s_left f fd) (hm : mg "left" = some (.ref f)) (B : Frs mg) (h_check_stand : Has P w K mg base 5 "check_stand" ["train", "stand"] p_check_stand f_check_stand) (h_check_row : Has P w K mg base 3 "check_row" ["train", "row"] p_check_row f_check_row) (h_walked : Has P w K mg base 4 "walked" ["train", "stand", "row"] p_walked f_walked)  : Has P w K mg base 6 "left" ["train", "stand", "row"] p_left f := by
  refine has_of F hm sc_left (fun ds r h => by obtain ⟨T, s, R, rfl, hT, hs, hl, hR, rfl⟩ := h; rfl) (fun _ _ _ _ _ _ us hl => match us, hl with | [_, _, _], _ => rfl) fun cdv A outer s H E ds r hr hp => ?_
  have hu := hr.u100
  obtain ⟨T, s, R, rfl, hT, hs, hl, hR, rfl⟩ := hp
  apply ends_rt
  refine pbd_drop (pd_call h_check_stand (hr.mono (by decide)) (pad_cons (pd_var 0 rfl) (pad_cons (pd_var 1 rfl) pad_nil)) ⟨T, s, rfl, hT, hs, rfl⟩) ?_
  refine pbd_drop (pd_call h_check_row (hr.mono (by decide)) (pad_cons (pd_var 0 rfl) (pad_cons (pd_var 2 rfl) pad_nil)) ⟨T, R, rfl, hl, hR, rfl⟩) ?_
  exact b_ret (pd_call h_walked (hr.mono (by decide)) (pad_cons (pd_var 0 rfl) (pad_cons (pd_var 1 rfl) (pad_cons (pd_var 2 rfl) pad_nil))) ⟨T, s, R, rfl, hT, hs, by omega, hR, rfl⟩) rfl
end
end Ct

-- W4
set_option Elab.async false
set_option linter.all false
set_option maxRecDepth 100000
set_option maxHeartbeats 1000000
/-! W4: ways.py: keys, pushes, ends (printed by gen2.py from W4.src). -/
namespace Ct
open PySem PySem.Spec L2
theorem keys_len {T : List Part} {keys : List Int} (h : keysOk T keys) : keys.length ≤ T.length := by
  have := nodup_le h.1 (m := (List.range T.length).map fun i => ((i : Nat) : Int)) fun x hx => by
    have := h.2 x hx
    exact List.mem_map.mpr ⟨x.toNat, List.mem_range.mpr (by omega), by omega⟩
  rwa [List.length_map, List.length_range] at this
section
variable {P : Program} {w : World} {K : PySem.W.Frag} {mg : Str → Option Value} {base : Heap}
abbrev dKeys (l : List Int) : PyData := .list (l.map .int)
def p_check_keys (ds : List Sl) (r : PyData) : Prop := ∃ (T : List Part) (keys : List Int), ds = [D (dTrain T), D (dKeys keys)] ∧ trainOk T ∧ keysOk T keys ∧ r = .none
/-! check_keys -/
theorem sc_check_keys : FnScope ["train", "keys", "key"] ["train", "keys"] (defScope s_check_keys) := ⟨rfl, rfl, rfl, by decide +kernel, rfl, by decide +kernel, by decide +kernel⟩
theorem ok_check_keys {f f_is_whole : Addr} {fd : FuncData} (F : FnP K "check_keys" s_check_keys f fd) (hm : mg "check_keys" = some (.ref f)) (B : Frs mg) (h_is_whole : Has P w K mg base 1 "is_whole" ["thing"] p_is_whole f_is_whole)  : Has P w K mg base 2 "check_keys" ["train", "keys"] p_check_keys f := by
  refine has_of F hm sc_check_keys (fun ds r h => by obtain ⟨T, keys, rfl, hT, hk, rfl⟩ := h; rfl) (fun _ _ _ _ _ _ us hl => match us, hl with | [_, _], _ => rfl) fun cdv A outer s H E ds r hr hp => ?_
  have hu := hr.u100
  obtain ⟨T, keys, rfl, hT, hk, rfl⟩ := hp
  apply ends_nx
  have hl := keys_len hk
  have hl2 := hT.2.1
  refine b_no (ptd_w (w_orF (ptd_not (ptd_val (pd_isList B (pd_var 1 rfl)))) rfl (w_or1 (ptd_not (ptd_val (pd_allT [("key", 2)] keys .int rfl B.all sc_check_keys.nd (pid_list (pd_var 1 rfl)) (blkOk_by (N := ["train", "keys", "key"]) (own := [("key", 2)]) (sc := defScope s_check_keys) (by decide +kernel)) (fun x hx => ⟨_, fun _ _ _ _ _ => (pgw_name 2 sc_check_keys.nd), fun _ _ _ _ _ => PED.eq (e_andT (pd_call h_is_whole (hr.mono (by decide)) (pad_cons (pd_var 2 rfl) pad_nil) ⟨x, rfl, rfl⟩) rfl (e_one (PED.eq (pd_chain hu pd_int (pd_var 2 rfl) (pd_len B.len (pd_var 0 rfl) .lst) .le .lt) (congrArg PyData.bool ?_)))) rfl, rfl⟩) (small_size (by omega)))))))) rfl ?_
  · have := hk.2 x hx
    simp [this.1, this.2]
  refine b_no (ptd_not (ptd_val (pd_allT [("key", 2)] keys .int rfl B.all sc_check_keys.nd (pid_list (pd_var 1 rfl)) (blkOk_by (N := ["train", "keys", "key"]) (own := [("key", 2)]) (sc := defScope s_check_keys) (by decide +kernel)) (fun x hx => ⟨_, fun _ _ _ _ _ => (pgw_name 2 sc_check_keys.nd), fun _ _ _ _ _ => PED.eq (pd_cmp hu (pd_countI (pd_var 1 rfl) (pd_var 2 rfl)) pd_int (.eq Ly.shp Ly.shp)) (congrArg PyData.bool ?_), rfl⟩) (small_size (by omega))))) rfl pbd_end
  rw [eqv_int]
  rw [hk.1.count, if_pos hx]
  rfl
def p_check_goal (ds : List Sl) (r : PyData) : Prop := ∃ (T : List Part) (s g : List Int) (keys : List Int), ds = [D (dTrain T), D (dStand s), D (dStand g), D (dKeys keys)] ∧ trainOk T ∧ standOk T s ∧ standOk T g ∧ keysOk T keys ∧ r = .none
/-! check_goal -/
theorem sc_check_goal : FnScope ["train", "stand", "goal", "keys"] ["train", "stand", "goal", "keys"] (defScope s_check_goal) := ⟨rfl, rfl, rfl, by decide +kernel, rfl, by decide +kernel, by decide +kernel⟩
theorem ok_check_goal {f f_check_stand f_check_keys f_is_stand : Addr} {fd : FuncData} (F : FnP K "check_goal" s_check_goal f fd) (hm : mg "check_goal" = some (.ref f)) (B : Frs mg) (h_check_stand : Has P w K mg base 5 "check_stand" ["train", "stand"] p_check_stand f_check_stand) (h_check_keys : Has P w K mg base 2 "check_keys" ["train", "keys"] p_check_keys f_check_keys) (h_is_stand : Has P w K mg base 2 "is_stand" ["train", "thing"] p_is_stand f_is_stand)  : Has P w K mg base 6 "check_goal" ["train", "stand", "goal", "keys"] p_check_goal f := by
  refine has_of F hm sc_check_goal (fun ds r h => by obtain ⟨T, s, g, keys, rfl, hT, hs, hg, hk, rfl⟩ := h; rfl) (fun _ _ _ _ _ _ us hl => match us, hl with | [_, _, _, _], _ => rfl) fun cdv A outer s H E ds r hr hp => ?_
  have hu := hr.u100
  obtain ⟨T, s, g, keys, rfl, hT, hs, hg, hk, rfl⟩ := hp
  apply ends_nx
  refine pbd_drop (pd_call h_check_stand (hr.mono (by decide)) (pad_cons (pd_var 0 rfl) (pad_cons (pd_var 1 rfl) pad_nil)) ⟨T, s, rfl, hT, hs, rfl⟩) ?_
  refine b_no (ptd_not (ptd_val (pd_call h_is_stand (hr.mono (by decide)) (pad_cons (pd_var 0 rfl) (pad_cons (pd_var 2 rfl) pad_nil)) ⟨T, g, rfl, hT, hg, rfl⟩))) rfl ?_
  exact pbd_drop (pd_call h_check_keys (hr.mono (by decide)) (pad_cons (pd_var 0 rfl) (pad_cons (pd_var 3 rfl) pad_nil)) ⟨T, keys, rfl, hT, hk, rfl⟩) pbd_end
def dP2 (p : Int × Int) : PyData := .tuple [.int p.1, .int p.2]
def p_all_pushes (ds : List Sl) (r : PyData) : Prop := ∃ (keys : List Int), ds = [D (dKeys keys)] ∧ keys.length ≤ 100 ∧ r = .list ((allP keys).map dP2)
theorem allP_len (keys : List Int) : (allP keys).length = 2 * keys.length := by
  induction keys with
  | nil => rfl
  | cons k keys ih =>
    show (([(k, 1), (k, -1)] : List (Int × Int)) ++ allP keys).length = _
    simp only [List.length_append, ih, List.length_cons, List.length_nil]
    omega
theorem allP_app (a b : List Int) : allP (a ++ b) = allP a ++ allP b := List.flatMap_append
/-! all_pushes -/
theorem sc_all_pushes : FnScope ["keys", "told", "i"] ["keys"] (defScope s_all_pushes) := ⟨rfl, rfl, rfl, by decide +kernel, rfl, by decide +kernel, by decide +kernel⟩
theorem ok_all_pushes {f  : Addr} {fd : FuncData} (F : FnP K "all_pushes" s_all_pushes f fd) (hm : mg "all_pushes" = some (.ref f)) (B : Frs mg)   : Has P w K mg base 1 "all_pushes" ["keys"] p_all_pushes f := by
  refine has_of F hm sc_all_pushes (fun ds r h => by obtain ⟨keys, rfl, hl, rfl⟩ := h; rfl) (fun _ _ _ _ _ _ us hl => match us, hl with | [_], _ => rfl) fun cdv A outer s H E ds r hr hp => ?_
  have hu := hr.u100
  obtain ⟨keys, rfl, hl, rfl⟩ := hp
  apply ends_rt
  refine pbd_set 1 sc_all_pushes.nd (s := D (.list ((allP []).map dP2))) (pd_lst (ps := []) pad_nil) ?_
  refine pbd_for rfl (pid_list (pd_var 0 rfl)) (fun k δ => ∃ sl : Sl, δ = [D (dKeys keys), D (.list ((allP (keys.take k)).map dP2)), sl]) ?_ (fun k d δa hd hI => ?_) (fun δa hI => ?_)
  · exact ⟨.any, rfl⟩
  · obtain ⟨sl, rfl⟩ := hI
    rw [List.getElem?_map] at hd
    obtain ⟨i, hi, rfl⟩ := Option.map_eq_some_iff.mp hd
    refine ⟨_, _, (pgd_name 2 sc_all_pushes.nd), pbd_set 1 sc_all_pushes.nd (pd_bin (pd_var 1 rfl) (pd_lst (ps := [_, _]) (pad_cons (pd_tup (ps := [_, _]) (pad_cons (pd_var 2 rfl) (pad_cons pd_int pad_nil))) (pad_cons (pd_tup (ps := [_, _]) (pad_cons (pd_var 2 rfl) (pad_cons (pd_bin pd_int pd_int .subI) pad_nil))) pad_nil))) (.addL ?_)) pbd_end, D (.int i), ?_⟩
    · have := allP_len (keys.take k)
      have : (keys.take k).length ≤ keys.length := by rw [List.length_take]; omega
      rw [List.length_map]
      have : sizeLine = 2 ^ 24 := rfl
      show (allP (keys.take k)).length + 2 ≤ sizeLine
      omega
    · rw [List.take_add_one, hi, allP_app, List.map_append]
      rfl
  · obtain ⟨sl, rfl⟩ := hI
    rw [List.length_map, List.take_length]
    exact b_ret (pd_var 1 rfl) rfl
/-- a def that tells the ends of a stand -/
def pEndsOf (T : List Part) (keys : List Int) (deed : Bool) (E : List Int → List (Stp × List Int)) (ds : List Sl) (r : PyData) : Prop := ∃ s, ds = [D (dTrain T), D (dStand s), D (dKeys keys)] ∧ standOk T s ∧ r = .list ((E s).map fun e => .tuple [dStep deed e.1, dStand e.2])
def p_push_ends (ds : List Sl) (r : PyData) : Prop := ∃ (T : List Part) (s : List Int) (keys : List Int), ds = [D (dTrain T), D (dStand s), D (dKeys keys)] ∧ trainOk T ∧ standOk T s ∧ keysOk T keys ∧ r = .list ((pEnds T keys s).map fun e => .tuple [dStep false e.1, dStand e.2])
/-! push_ends -/
theorem sc_push_ends : FnScope ["train", "stand", "keys", "push"] ["train", "stand", "keys"] (defScope s_push_ends) := ⟨rfl, rfl, rfl, by decide +kernel, rfl, by decide +kernel, by decide +kernel⟩
theorem ok_push_ends {f f_all_pushes f_pushed : Addr} {fd : FuncData} (F : FnP K "push_ends" s_push_ends f fd) (hm : mg "push_ends" = some (.ref f)) (B : Frs mg) (h_all_pushes : Has P w K mg base 1 "all_pushes" ["keys"] p_all_pushes f_all_pushes) (h_pushed : Has P w K mg base 4 "pushed" ["train", "stand", "i", "way"] p_pushed f_pushed)  : Has P w K mg base 5 "push_ends" ["train", "stand", "keys"] p_push_ends f := by
  refine has_of F hm sc_push_ends (fun ds r h => by obtain ⟨T, s, keys, rfl, hT, hs, hk, rfl⟩ := h; rfl) (fun _ _ _ _ _ _ us hl => match us, hl with | [_, _, _], _ => rfl) fun cdv A outer s H E ds r hr hp => ?_
  have hu := hr.u100
  obtain ⟨T, s, keys, rfl, hT, hs, hk, rfl⟩ := hp
  apply ends_rt
  have hl := keys_len hk
  have hl2 := hT.2.1
  have hl3 := allP_len keys
  have hw : ∀ x ∈ allP keys, 0 ≤ x.1 ∧ x.1 < T.length ∧ isWay x.2 := fun x hx => ⟨(hk.2 _ (allP_mem hx).1).1, (hk.2 _ (allP_mem hx).1).2, (allP_mem hx).2⟩
  refine b_ret (pd_lcA [("push", 3)] (allP keys) dP2 (fun p => .tuple [dP2 p, dStand (push1 T s p.1 p.2)]) rfl sc_push_ends.nd (pid_list (pd_call h_all_pushes (hr.mono (by decide)) (pad_cons (pd_var 2 rfl) pad_nil) ⟨keys, rfl, by omega, rfl⟩)) (blkOk_by (N := ["train", "stand", "keys", "push"]) (own := [("push", 3)]) (sc := defScope s_push_ends) (by decide +kernel)) (fun x hx => ⟨_, fun _ _ _ _ _ => (pgw_name 3 sc_push_ends.nd), fun _ _ _ _ _ => PED.eq (pd_tup (ps := [_, _]) (pad_cons (pd_var 3 rfl) (pad_cons (pd_ix (pd_call h_pushed (hr.mono (by decide)) (pad_cons (pd_var 0 rfl) (pad_cons (pd_var 1 rfl) (pad_cons (pd_ix (pd_var 3 rfl) pd_int (.tup rfl)) (pad_cons (pd_ix (pd_var 3 rfl) pd_int (.tup rfl)) pad_nil)))) ⟨T, s, x.1.toNat, x.2, ?_, hT, hs.len, ?_, (hw x hx).2.2, rfl⟩) pd_int (.tup rfl)) pad_nil))) rfl, rfl⟩) (small_size (by omega))) ?_
  · show [_, _, D (.int x.1), D (.int x.2)] = _
    rw [Int.toNat_of_nonneg (hw x hx).1]
  · have := hw x hx; omega
  · unfold pEnds
    rw [List.map_map]
    rfl
theorem orb_push {T : List Part} {i way : Int} {f t : Nat} {here : List Int} {met : List (List Int)} (h : here ∉ met) : orb T i way (f + 1) t here met = (if 0 < t then [((i, way, (t : Int)), here)] else []) ++ orb T i way f (t + 1) (push1 T here i way) (met ++ [here]) := by
  rw [orb, if_neg h]
def metD (met : List (List Int)) : List (List Int × Bool) := met.map fun s => (s, true)
theorem metD_get {met : List (List Int)} {s : List Int} : (aGet (metD met) s).isSome = decide (s ∈ met) := by
  rw [Bool.eq_iff_iff, aGet_isSome, decide_eq_true_iff]
  unfold metD
  rw [List.map_map]
  simp [Function.comp_def]
theorem metD_put {met : List (List Int)} {s : List Int} (h : s ∉ met) : aPut (metD met) s true = metD (met ++ [s]) := by
  rw [aPut_new]
  · unfold metD; rw [List.map_append]; rfl
  · have := metD_get (met := met) (s := s)
    rw [decide_eq_false h] at this
    cases e : aGet (metD met) s with
    | none => rfl
    | some v => rw [e] at this; cases this
def dEnd (e : Stp × List Int) : PyData := .tuple [dStep true e.1, dStand e.2]
def p_deed_ends (ds : List Sl) (r : PyData) : Prop := ∃ (T : List Part) (s : List Int) (keys : List Int), ds = [D (dTrain T), D (dStand s), D (dKeys keys)] ∧ trainOk T ∧ standOk T s ∧ keysOk T keys ∧ few T ∧ r = .list ((dEnds T keys s).map dEnd)
theorem orb_len {T : List Part} {i way : Int} : ∀ (f t : Nat) (here : List Int) (met : List (List Int)), (orb T i way f t here met).length ≤ f
  | 0, _, _, _ => by simp [orb]
  | f + 1, t, here, met => by
    rw [orb]
    split
    · exact Nat.zero_le _
    · rw [List.length_append]
      have := orb_len (T := T) (i := i) (way := way) f (t + 1) (push1 T here i way) (met ++ [here])
      split
      · rw [List.length_singleton]; omega
      · rw [List.length_nil]; omega
def dEndsP (T : List Part) (s : List Int) (ps : List (Int × Int)) : List (Stp × List Int) := ps.flatMap fun p => orb T p.1 p.2 501 0 s []
theorem dEndsP_len (T : List Part) (s : List Int) : ∀ ps : List (Int × Int), (dEndsP T s ps).length ≤ 501 * ps.length
  | [] => Nat.le_refl _
  | p :: ps => by
    have h1 := dEndsP_len T s ps
    have h2 := orb_len (T := T) (i := p.1) (way := p.2) 501 0 s []
    show (orb T p.1 p.2 501 0 s [] ++ dEndsP T s ps).length ≤ _
    rw [List.length_append, List.length_cons]
    omega
/-! deed_ends -/
theorem sc_deed_ends : FnScope ["train", "stand", "keys", "told", "i", "way", "met", "times", "here"] ["train", "stand", "keys"] (defScope s_deed_ends) := ⟨rfl, rfl, rfl, by decide +kernel, rfl, by decide +kernel, by decide +kernel⟩
theorem ok_deed_ends {f f_all_pushes f_pushed : Addr} {fd : FuncData} (F : FnP K "deed_ends" s_deed_ends f fd) (hm : mg "deed_ends" = some (.ref f)) (B : Frs mg) (h_all_pushes : Has P w K mg base 1 "all_pushes" ["keys"] p_all_pushes f_all_pushes) (h_pushed : Has P w K mg base 4 "pushed" ["train", "stand", "i", "way"] p_pushed f_pushed)  : Has P w K mg base 5 "deed_ends" ["train", "stand", "keys"] p_deed_ends f := by
  refine has_of F hm sc_deed_ends (fun ds r h => by obtain ⟨T, s, keys, rfl, hT, hs, hk, hf, rfl⟩ := h; rfl) (fun _ _ _ _ _ _ us hl => match us, hl with | [_, _, _], _ => rfl) fun cdv A outer s H E ds r hr hp => ?_
  have hu := hr.u100
  obtain ⟨T, s, keys, rfl, hT, hs, hk, hf, rfl⟩ := hp
  apply ends_rt
  have hl := keys_len hk
  have hl2 := hT.2.1
  have hl3 := allP_len keys
  have hsz : sizeLine = 2 ^ 24 := rfl
  have hw : ∀ x ∈ allP keys, 0 ≤ x.1 ∧ x.1 < T.length ∧ isWay x.2 := fun x hx => ⟨(hk.2 _ (allP_mem hx).1).1, (hk.2 _ (allP_mem hx).1).2, (allP_mem hx).2⟩
  refine pbd_own 3 sc_deed_ends.nd (ds := []) (pn_lst (ps := []) pad_nil) ?_
  refine pbd_for rfl (items := (allP keys).map dP2) (pid_list (pd_call h_all_pushes (hr.mono (by decide)) (pad_cons (pd_var 2 rfl) pad_nil) ⟨keys, rfl, by omega, rfl⟩)) (fun k δ => ∃ s1 s2 s3 s4 s5 : Sl, δ = [D (dTrain T), D (dStand s), D (dKeys keys), .lst ((dEndsP T s ((allP keys).take k)).map dEnd), s1, s2, s3, s4, s5]) ?_ (fun k d δa hd hI => ?_) (fun δa hI => ?_)
  · exact ⟨.any, .any, .any, .any, .any, rfl⟩
  · obtain ⟨s1, s2, s3, s4, s5, rfl⟩ := hI
    rw [List.getElem?_map] at hd
    obtain ⟨p, hp, rfl⟩ := Option.map_eq_some_iff.mp hd
    obtain ⟨i, wy⟩ := p
    have hpw := hw _ (List.mem_of_getElem? hp)
    have hkl : k < (allP keys).length := (List.getElem?_eq_some_iff.mp hp).1
    have hE := dEndsP_len T s ((allP keys).take k)
    have hE2 : ((allP keys).take k).length ≤ 100 := by rw [List.length_take]; omega
    have hfin : dEndsP T s ((allP keys).take (k + 1)) = dEndsP T s ((allP keys).take k) ++ orb T i wy 501 0 s [] := by
      rw [List.take_add_one, hp]
      unfold dEndsP
      rw [List.flatMap_append]
      simp
    refine ⟨_, .nx [D (dTrain T), D (dStand s), D (dKeys keys), .lst ((dEndsP T s ((allP keys).take (k + 1))).map dEnd), .any, .any, .any, .any, .any], (pgd_tup rfl (pgds_cons (pgd_name 4 sc_deed_ends.nd) (pgds_cons (pgd_name 5 sc_deed_ends.nd) pgds_nil))), pbd_newK 6 sc_deed_ends.nd (pbd_set 7 sc_deed_ends.nd pd_int (pbd_set 8 sc_deed_ends.nd (pd_var 1 rfl) ?_)), .any, .any, .any, .any, .any, rfl⟩
    refine pbd_while (fun m δ => ∃ (t : Nat) (here : List Int) (met : List (List Int)) (out : List (Stp × List Int)), m + t = 501 ∧ met.length = t ∧ met.Nodup ∧ (∀ x ∈ met, standOk T x) ∧ standOk T here ∧ out.length ≤ 501 * 100 + t ∧
      out ++ orb T i wy (501 - t) t here met = dEndsP T s ((allP keys).take (k + 1)) ∧ δ = [D (dTrain T), D (dStand s), D (dKeys keys), .lst (out.map dEnd), D (.int i), D (.int wy), .dct (dEnt stKd .bool (metD met)), D (.int t), D (dStand here)]) (m0 := 501) ?_ (fun m δa hI => ?_)
    · exact ⟨0, s, [], dEndsP T s ((allP keys).take k), rfl, rfl, List.nodup_nil, (fun x hx => by cases hx), hs, by omega, hfin.symm, rfl⟩
    · obtain ⟨t, here, met, out, hm, hmt, hnd, hall, hh, hol, ho, rfl⟩ := hI
      have hmf : met.length ≤ 500 := by
        have := nodup_le hnd (m := stands T) fun x hx => (hall x hx).mem
        unfold few at hf
        omega
      refine ⟨_, ptd_ninK (kd := stKd) (dv := .bool) (M := metD met) (k := here) 6 rfl hu (pd_var 8 rfl), fun hk => ?_, fun hk => ?_⟩
      · rw [metD_get] at hk
        have hn : here ∉ met := by simpa using hk
        obtain ⟨f, ef⟩ : ∃ f, 501 - t = f + 1 := ⟨500 - t, by omega⟩
        rw [ef, orb_push hn] at ho
        have hnd2 : (met ++ [here]).Nodup := by
          rw [List.nodup_append]
          refine ⟨hnd, by simp, fun x hx y hy => ?_⟩
          rw [List.mem_singleton] at hy
          subst hy
          exact fun q => hn (q ▸ hx)
        have hall2 : ∀ x ∈ met ++ [here], standOk T x := fun x hx => by
          rcases List.mem_append.mp hx with q | q
          · exact hall x q
          · rw [List.mem_singleton] at q; subst q; exact hh
        have hpu : 0 ≤ i ∧ i < T.length := ⟨hpw.1, hpw.2.1⟩
        have hcall : p_pushed [D (dTrain T), D (dStand here), D (.int i), D (.int wy)] (.tuple [dStand (push1 T here i wy), .int (pushN T here i.toNat wy 1).2]) := ⟨T, here, i.toNat, wy, by rw [Int.toNat_of_nonneg hpu.1], hT, hh.len, by omega, hpw.2.2, rfl⟩
        have ef2 : 501 - (t + 1) = f := by omega
        by_cases h0 : 0 < t
        · rw [if_pos h0, ← List.append_assoc] at ho
          refine ⟨.nx [D (dTrain T), D (dStand s), D (dKeys keys), .lst ((out ++ [((i, wy, (t : Int)), here)]).map dEnd), D (.int i), D (.int wy), .dct (dEnt stKd .bool (metD (met ++ [here]))), D (.int (t + 1)), D (dStand (push1 T here i wy))], ?_, m - 1, by omega, t + 1, push1 T here i wy, met ++ [here], out ++ [((i, wy, (t : Int)), here)], by omega, by rw [List.length_append, hmt]; rfl, hnd2, hall2, push1_ok hT.2.2 hh hpw.2.2, ?_, by rw [ef2]; exact ho, rfl⟩
          · refine pbd_putK (kd := stKd) (dv := .bool) (M := metD met) (k := here) (v := true) 6 pd_bl rfl hu (pd_var 8 rfl) (by unfold metD; rw [List.length_map]; omega) ?_
            rw [metD_put hn]
            refine b_ifT (ptd_cmp hu (pd_var 7 rfl) pd_int .gt) (decide_eq_true (by omega)) ?_
            refine pbd_append (d := dEnd ((i, wy, (t : Int)), here)) 3 rfl (pd_tup (ps := [_, _]) (pad_cons (pd_tup (ps := [_, _, _]) (pad_cons (pd_var 4 rfl) (pad_cons (pd_var 5 rfl) (pad_cons (pd_var 7 rfl) pad_nil)))) (pad_cons (pd_var 8 rfl) pad_nil))) rfl (by rw [List.length_map]; omega) ?_
            refine pbd_pop (pbd_set 8 sc_deed_ends.nd (pd_ix (pd_call h_pushed (hr.mono (by decide)) (pad_cons (pd_var 0 rfl) (pad_cons (pd_var 8 rfl) (pad_cons (pd_var 4 rfl) (pad_cons (pd_var 5 rfl) pad_nil)))) hcall) pd_int (.tup rfl)) (pbd_addI 7 sc_deed_ends.nd rfl pd_int ?_))
            rw [List.map_append]
            exact pbd_nx (by rfl)
          · rw [List.length_append, List.length_singleton]; omega
        · rw [if_neg h0, List.nil_append] at ho
          refine ⟨.nx [D (dTrain T), D (dStand s), D (dKeys keys), .lst (out.map dEnd), D (.int i), D (.int wy), .dct (dEnt stKd .bool (metD (met ++ [here]))), D (.int (t + 1)), D (dStand (push1 T here i wy))], ?_, m - 1, by omega, t + 1, push1 T here i wy, met ++ [here], out, by omega, by rw [List.length_append, hmt]; rfl, hnd2, hall2, push1_ok hT.2.2 hh hpw.2.2, by omega, by rw [ef2]; exact ho, rfl⟩
          refine pbd_putK (kd := stKd) (dv := .bool) (M := metD met) (k := here) (v := true) 6 pd_bl rfl hu (pd_var 8 rfl) (by unfold metD; rw [List.length_map]; omega) ?_
          rw [metD_put hn]
          refine b_no (ptd_cmp hu (pd_var 7 rfl) pd_int .gt) (decide_eq_false (by omega)) ?_
          refine pbd_set 8 sc_deed_ends.nd (pd_ix (pd_call h_pushed (hr.mono (by decide)) (pad_cons (pd_var 0 rfl) (pad_cons (pd_var 8 rfl) (pad_cons (pd_var 4 rfl) (pad_cons (pd_var 5 rfl) pad_nil)))) hcall) pd_int (.tup rfl)) (pbd_addI 7 sc_deed_ends.nd rfl pd_int ?_)
          exact pbd_nx (by rfl)
      · rw [metD_get] at hk
        have hn : here ∈ met := by simpa using hk
        have e0 : orb T i wy (501 - t) t here met = [] := by
          cases 501 - t with
          | zero => rfl
          | succ f => rw [orb, if_pos hn]
        rw [e0, List.append_nil] at ho
        rw [ho]
        exact pbd_wipe [4, 5, 6, 7, 8] (pbd_nx rfl)
  · obtain ⟨s1, s2, s3, s4, s5, rfl⟩ := hI
    rw [List.length_map, List.take_length]
    refine pbd_freeze 3 rfl ?_
    exact b_ret (pd_var 3 rfl) rfl
end
end Ct

-- W5
set_option Elab.async false
set_option linter.all false
set_option maxRecDepth 100000
set_option maxHeartbeats 1000000
/-! W5: ways.py: the search (printed by gen2.py from W5.src). -/
namespace Ct
open PySem PySem.Spec L2
theorem Has.imp {P : Program} {w : World} {K : PySem.W.Frag} {mg : Str → Option Value} {base : Heap} {n : Nat} {x : Str} {ps : List Str} {pre pre' : List Sl → PyData → Prop} {f : Addr} (h : Has P w K mg base n x ps pre f) (k : ∀ ds r, pre' ds r → pre ds r) : Has P w K mg base n x ps pre' f := by
  obtain ⟨fd, h1, h2⟩ := h.ex
  exact ⟨h.at_, h.kp, fd, h1, h2.imp fun vs H Q E ⟨G, ds, r, hp, q⟩ => ⟨G, ds, r, k ds r hp, q⟩⟩
def dvP (deed : Bool) (p : List Stp) : PyData := .list (p.map (dStep deed))
theorem alike_stands (l : List (List Int)) : PySem.W.AllAlike (l.map dStand) := .of fun a b => by
  show PySem.W.alikeAll _ _ = true
  exact PySem.W.alike_ints a b
theorem sortable_stands {T : List Part} (hT : T ≠ []) {l : List (List Int)} (h : ∀ s ∈ l, standOk T s) : PySem.W.Sortable (l.map dStand) := .inl fun d hd => by
  obtain ⟨s, hs, rfl⟩ := List.mem_map.mp hd
  have hl := (h s hs).len
  cases s with
  | nil =>
    cases T with
    | nil => exact absurd rfl hT
    | cons p T => simp at hl
  | cons x s => exact ⟨.int x, s.map .int, rfl⟩
theorem depth_stands {l : List (List Int)} : ∀ d ∈ l.map dStand, d.depth ≤ 64 := fun d hd => by
  obtain ⟨s, _, rfl⟩ := List.mem_map.mp hd
  exact Nat.le_trans lay_stand.2 (by decide)
section
variable {P : Program} {w : World} {K : PySem.W.Frag} {mg : Str → Option Value} {base : Heap}
def p_least_by (P : Program) (w : World) (K : PySem.W.Frag) (mg : Str → Option Value) (base : Heap) (ds : List Sl) (r : PyData) : Prop :=
  ∃ (T : List Part) (s g : List Int) (keys : List Int) (deed : Bool) (E : List Int → List (Stp × List Int)) (nm : Str) (fe : Addr), ds = [D (dTrain T), D (dStand s), D (dStand g), D (dKeys keys), .fn fe] ∧ trainOk T ∧ standOk T s ∧ few T ∧
    Has P w K mg base 5 nm ["train", "stand", "keys"] (pEndsOf T keys deed E) fe ∧ (∀ s, standOk T s → ∀ e ∈ E s, standOk T e.2) ∧ r = dAns (leastA deed E s g)
/-! least_by -/
theorem sc_least_by : FnScope ["train", "stand", "goal", "keys", "ends_of", "came", "order", "at", "here", "step", "behind", "one"] ["train", "stand", "goal", "keys", "ends_of"] (defScope s_least_by) := ⟨rfl, rfl, rfl, by decide +kernel, rfl, by decide +kernel, by decide +kernel⟩
theorem ok_least_by {f  : Addr} {fd : FuncData} (F : FnP K "least_by" s_least_by f fd) (hm : mg "least_by" = some (.ref f)) (B : Frs mg)   : Has P w K mg base 6 "least_by" ["train", "stand", "goal", "keys", "ends_of"] (p_least_by P w K mg base) f := by
  refine has_of F hm sc_least_by (fun ds r h => by obtain ⟨T, s, g, keys, deed, En, nm, fe, rfl, hT, hs, hf, F_ends_of, hE, rfl⟩ := h; rfl) (fun _ _ _ _ _ _ us hl => match us, hl with | [_, _, _, _, _], _ => rfl) fun cdv A outer s H E ds r hr hp => ?_
  have hu := hr.u100
  obtain ⟨T, s, g, keys, deed, En, nm, fe, rfl, hT, hs, hf, F_ends_of, hE, rfl⟩ := hp
  apply ends_rt
  have hsz : sizeLine = 2 ^ 24 := rfl
  refine pbd_ownK 5 sc_least_by.nd (pk_one (kd := stKd) (dv := dvP deed) (k := s) (v := []) hu (pd_var 1 rfl) (pd_lst (ps := []) pad_nil)) ?_
  refine pbd_own 6 sc_least_by.nd (ds := [dStand s]) (pn_lst (ps := [_]) (pad_cons (pd_var 1 rfl) pad_nil)) ?_
  refine pbd_set 7 sc_least_by.nd pd_int ?_
  refine pbd_while (fun m δ => ∃ (i : Nat) (M : Cm) (s1 s2 s3 s4 : Sl), m + i = 501 ∧ Srch T En s M ∧ bfsS En (501 - i) i M = cameS En s ∧
      δ = [D (dTrain T), D (dStand s), D (dStand g), D (dKeys keys), .fn fe, .dct (dEnt stKd (dvP deed) M), .lst ((M.map (·.1)).map dStand), D (.int i), s1, s2, s3, s4]) (m0 := 501) ?_ (fun m δa hI => ?_)
  · exact ⟨0, [(s, [])], .any, .any, .any, .any, rfl, .start hs, rfl, rfl⟩
  · obtain ⟨i, M, s1, s2, s3, s4, hm, hS, hB, rfl⟩ := hI
    have hM := hS.len hf
    refine ⟨_, (ptd_cmp hu (pd_var 7 rfl) (pd_lenO 6 B.len rfl) .lt), fun hk => ?_, fun hk => ?_⟩
    · have hi : i < M.length := by
        have := of_decide_eq_true hk
        simp only [List.length_map] at this
        omega
      obtain ⟨⟨here, ph⟩, e1⟩ : ∃ e, M[i]? = some e := ⟨M[i], List.getElem?_eq_getElem hi⟩
      have hgh := hS.good.at e1
      have hhs : standOk T here := hS.good.ok _ (List.mem_of_getElem? e1)
      have e2 : ((M.map (·.1)).map dStand)[i]? = some (dStand here) := by rw [List.getElem?_map, List.getElem?_map, e1]; rfl
      obtain ⟨f, ef⟩ : ∃ f, 501 - i = f + 1 := ⟨500 - i, by omega⟩
      have hB2 : bfsS En f (i + 1) (innerM here (En here) M) = cameS En s := by
        rw [ef, bfsS, e1] at hB
        exact hB
      have step : ∀ k, k ≤ (En here).length → Srch T En s (innerM here ((En here).take k) M) ∧ aGet (innerM here ((En here).take k) M) here = some ph := fun k => by
        induction k with
        | zero => exact fun _ => ⟨hS, hgh⟩
        | succ k ih =>
          intro hk
          obtain ⟨q1, q2⟩ := ih (by omega)
          have e3 : (En here)[k]? = some (En here)[k] := List.getElem?_eq_getElem (by omega)
          have e4 : innerM here ((En here).take (k + 1)) M = addE here (innerM here ((En here).take k) M) (En here)[k].1 (En here)[k].2 := by
            rw [List.take_add_one, e3]
            unfold innerM
            rw [List.foldl_append]
            rfl
          rw [e4]
          have hin : (En here)[k] ∈ En here := List.getElem_mem _
          refine ⟨q1.add q2 hin (hE here hhs _ hin), ?_⟩
          obtain ⟨N0, e0⟩ := addE_pre (here := here) (M := innerM here ((En here).take k) M) (st := (En here)[k].1) (b := (En here)[k].2)
          rw [e0]; exact aGet_app q2
      refine ⟨.nx [D (dTrain T), D (dStand s), D (dStand g), D (dKeys keys), .fn fe, .dct (dEnt stKd (dvP deed) (innerM here (En here) M)), .lst (((innerM here (En here) M).map (·.1)).map dStand), D (.int ((i + 1 : Nat) : Int)), .any, .any, .any, .any], ?_, m - 1, by omega, i + 1, innerM here (En here) M, .any, .any, .any, .any, by omega, ?_, by rw [show 501 - (i + 1) = f by omega]; exact hB2, rfl⟩
      · refine pbd_set 8 sc_least_by.nd (s := D (dStand here)) (pd_ixO 6 rfl (pd_var 7 rfl) (atI_nat e2)) ?_
        refine pbd_for rfl (items := (En here).map fun e => .tuple [dStep deed e.1, dStand e.2]) (pid_list (pd_callL 4 F_ends_of (hr.mono (by decide)) rfl (pad_cons (pd_var 0 rfl) (pad_cons (pd_var 8 rfl) (pad_cons (pd_var 3 rfl) pad_nil))) ⟨here, rfl, hhs, rfl⟩)) (fun k δ => ∃ s2 s3 : Sl, δ = [D (dTrain T), D (dStand s), D (dStand g), D (dKeys keys), .fn fe, .dct (dEnt stKd (dvP deed) (innerM here ((En here).take k) M)), .lst (((innerM here ((En here).take k) M).map (·.1)).map dStand), D (.int i), D (dStand here), s2, s3, s4]) ?_ (fun k d δa hd hI => ?_) (fun δa hI => ?_)
        · exact ⟨_, _, rfl⟩
        · obtain ⟨s2, s3, rfl⟩ := hI
          rw [List.getElem?_map] at hd
          obtain ⟨e, he, rfl⟩ := Option.map_eq_some_iff.mp hd
          have hkl := (List.getElem?_eq_some_iff.mp he).1
          obtain ⟨q1, q2⟩ := step k (by omega)
          obtain ⟨q3, _⟩ := step (k + 1) (by omega)
          have hq1 := q1.len hf
          have e4 : innerM here ((En here).take (k + 1)) M = addE here (innerM here ((En here).take k) M) e.1 e.2 := by
            rw [List.take_add_one, he]
            unfold innerM
            rw [List.foldl_append]
            rfl
          generalize innerM here ((En here).take k) M = Mk at *
          refine ⟨_, .nx _, (pgd_tup rfl (pgds_cons (pgd_name 9 sc_least_by.nd) (pgds_cons (pgd_name 10 sc_least_by.nd) pgds_nil))), ?_, D (dStep deed e.1), D (dStand e.2), rfl⟩
          rw [e4]
          cases hb : aGet Mk e.2 with
          | some pb =>
            have e5 : addE here Mk e.1 e.2 = Mk := by unfold addE; rw [hb]; rfl
            rw [e5]
            exact b_no (ptd_ninK (kd := stKd) (dv := dvP deed) (M := Mk) (k := e.2) 5 rfl hu (pd_var 10 rfl)) (by rw [hb]; rfl) pbd_end
          | none =>
            have e5 : addE here Mk e.1 e.2 = Mk ++ [(e.2, ph ++ [e.1])] := by
              unfold addE pathOf
              rw [hb, q2]; rfl
            have hph := q1.short _ (aGet_mem q2)
            dsimp only at hph
            rw [e5]
            refine b_ifT (ptd_ninK (kd := stKd) (dv := dvP deed) (M := Mk) (k := e.2) 5 rfl hu (pd_var 10 rfl)) (by rw [hb]; rfl) ?_
            refine pbd_putK (kd := stKd) (dv := dvP deed) (M := Mk) (k := e.2) (v := ph ++ [e.1]) 5 (PED.eq (pd_bin (pd_getK (kd := stKd) (dv := dvP deed) (M := Mk) (k := here) 5 rfl hu (pd_var 8 rfl) q2) (pd_lst (ps := [_]) (pad_cons (pd_var 9 rfl) pad_nil)) (.addL (by rw [List.length_map]; show ph.length + 1 ≤ sizeLine; omega))) (by unfold dvP; rw [List.map_append]; rfl)) rfl hu (pd_var 10 rfl) (by omega) ?_
            rw [aPut_new hb]
            refine pbd_append (d := dStand e.2) 6 rfl (pd_var 10 rfl) rfl (by rw [List.length_map, List.length_map]; omega) ?_
            refine pbd_pop (pbd_nx ?_)
            rw [List.map_append, List.map_append]
            rfl
        · obtain ⟨s2, s3, rfl⟩ := hI
          rw [List.length_map, List.take_length]
          exact pbd_addI 7 sc_least_by.nd rfl pd_int (pbd_wipe [8, 9, 10, 11] (pbd_nx rfl))
      · have := (step (En here).length (Nat.le_refl _)).1
        rwa [List.take_length] at this
    · have hi : M.length ≤ i := by
        have := of_decide_eq_false hk
        simp only [List.length_map] at this
        omega
      have hM' : cameS En s = M := by
        rw [← hB]
        cases 501 - i with
        | zero => rfl
        | succ f => rw [bfsS, List.getElem?_eq_none hi]
      have hkeys : ∀ x ∈ M.map (·.1), standOk T x := fun x hx => by
        obtain ⟨e, he, rfl⟩ := List.mem_map.mp hx
        exact hS.good.ok e he
      cases hg : aGet M g with
      | none =>
        refine b_ifT (ptd_ninK (kd := stKd) (dv := dvP deed) (M := M) (k := g) 5 rfl hu (pd_var 2 rfl)) (by rw [hg]; rfl) ?_
        refine b_ret (pd_tup (ps := [_, _]) (pad_cons pd_str (pad_cons (pd_sortedO 6 rfl B.sorted rfl hu (alike_stands _) (sortable_stands hT.1 hkeys) depth_stands) pad_nil))) ?_
        unfold leastA
        rw [hM', hg, sortS_eq]
        rfl
      | some p =>
        have hp := hS.short _ (aGet_mem hg)
        dsimp only at hp
        refine b_no (ptd_ninK (kd := stKd) (dv := dvP deed) (M := M) (k := g) 5 rfl hu (pd_var 2 rfl)) (by rw [hg]; rfl) ?_
        have hx1 : ∀ x ∈ sortS (M.map (·.1)), aGet M x = some (pathOf M x) := fun x hx => aGet_pathOf (mem_sortS.mp hx)
        have hsl : (sortS (M.map (·.1))).length = M.length := by unfold sortS; rw [List.length_mergeSort, List.length_map]
        have hss : (sortS (M.map (·.1))).length < sizeLine := by rw [hsl]; omega
        refine b_ret (PED.eq (pd_tup (ps := [_, _, _]) (pad_cons pd_str (pad_cons (pd_list B.list (pd_getK (kd := stKd) (dv := dvP deed) (M := M) (k := g) 5 rfl hu (pd_var 2 rfl) hg) .lst) (pad_cons (pd_lcA [("one", 11)] (sortS (M.map (·.1))) dStand (fun x => dNum (x, ((pathOf M x).length : Int))) rfl sc_least_by.nd (PID.eq (pid_list (pd_sortedO 6 rfl B.sorted rfl hu (alike_stands _) (sortable_stands hT.1 hkeys) depth_stands)) (sortS_eq _)) (blkOk_by (N := ["train", "stand", "goal", "keys", "ends_of", "came", "order", "at", "here", "step", "behind", "one"]) (own := [("one", 11)]) (sc := defScope s_least_by) (by decide +kernel)) (fun x hx => ⟨_, fun _ _ _ _ _ => (pgw_name 11 sc_least_by.nd), fun _ _ _ _ _ => PED.eq (pd_tup (ps := [_, _]) (pad_cons (pd_var 11 rfl) (pad_cons (pd_len B.len (pd_getK 5 rfl hu (pd_var 11 rfl) (hx1 x hx)) .lst) pad_nil))) (by unfold dNum; rw [List.length_map]), rfl⟩) hss) pad_nil)))) rfl) ?_
        unfold leastA
        rw [hM', hg]
        dsimp only [dAns]
        rw [List.map_map]
        rfl
def p_least_pushes (ds : List Sl) (r : PyData) : Prop := ∃ (T : List Part) (s g : List Int) (keys : List Int), ds = [D (dTrain T), D (dStand s), D (dStand g), D (dKeys keys)] ∧ trainOk T ∧ standOk T s ∧ standOk T g ∧ keysOk T keys ∧ countF T ≤ 500 ∧ r = dAns (leastA false (pEnds T keys) s g)
theorem foldl_count : ∀ (T : List Part) (a : Int), T.foldl (fun a p => a * places p) a = a * T.foldr (fun p a => places p * a) 1
  | [], a => by simp
  | p :: T, a => by
    rw [List.foldl_cons, foldl_count T, List.foldr_cons, Int.mul_assoc]
theorem few_of {T : List Part} (hT : ∀ p ∈ T, p.ok) (h : countF T ≤ 500) : few T := by
  unfold few
  have := stands_len hT
  unfold countF at h
  rw [foldl_count, Int.one_mul] at h
  omega
theorem has_pushEnds {n : Nat} {nm : Str} {f : Addr} {T : List Part} {keys : List Int} (h : Has P w K mg base n nm ["train", "stand", "keys"] p_push_ends f) (hT : trainOk T) (hk : keysOk T keys) : Has P w K mg base n nm ["train", "stand", "keys"] (pEndsOf T keys false (pEnds T keys)) f :=
  h.imp fun ds r ⟨s, e1, e2, e3⟩ => ⟨T, s, keys, e1, hT, e2, hk, e3⟩
theorem has_deedEnds {n : Nat} {nm : Str} {f : Addr} {T : List Part} {keys : List Int} (h : Has P w K mg base n nm ["train", "stand", "keys"] p_deed_ends f) (hT : trainOk T) (hk : keysOk T keys) (hf : few T) : Has P w K mg base n nm ["train", "stand", "keys"] (pEndsOf T keys true (dEnds T keys)) f :=
  h.imp fun ds r ⟨s, e1, e2, e3⟩ => ⟨T, s, keys, e1, hT, e2, hk, hf, e3⟩
structure Cs (mg : Str → Option Value) : Prop where
  figs : ∃ t, mg "FIGURES" = some (.str "0123456789" t)
  longest : ∃ t, mg "LONGEST" = some (.int 40 t)
  most : ∃ t, mg "MOST_STANDS" = some (.int 500 t)
/-! least_pushes -/
theorem sc_least_pushes : FnScope ["train", "stand", "goal", "keys"] ["train", "stand", "goal", "keys"] (defScope s_least_pushes) := ⟨rfl, rfl, rfl, by decide +kernel, rfl, by decide +kernel, by decide +kernel⟩
theorem ok_least_pushes {f f_check_goal f_least_by f_push_ends f_stand_count : Addr} {fd : FuncData} (F : FnP K "least_pushes" s_least_pushes f fd) (hm : mg "least_pushes" = some (.ref f)) (B : Frs mg) (h_check_goal : Has P w K mg base 6 "check_goal" ["train", "stand", "goal", "keys"] p_check_goal f_check_goal) (h_least_by : Has P w K mg base 6 "least_by" ["train", "stand", "goal", "keys", "ends_of"] (p_least_by P w K mg base) f_least_by) (h_push_ends : Has P w K mg base 5 "push_ends" ["train", "stand", "keys"] p_push_ends f_push_ends) (h_stand_count : Has P w K mg base 5 "stand_count" ["train"] p_stand_count f_stand_count) (C : Cs mg) : Has P w K mg base 7 "least_pushes" ["train", "stand", "goal", "keys"] p_least_pushes f := by
  refine has_of F hm sc_least_pushes (fun ds r h => by obtain ⟨T, s, g, keys, rfl, hT, hs, hg, hk, hc, rfl⟩ := h; rfl) (fun _ _ _ _ _ _ us hl => match us, hl with | [_, _, _, _], _ => rfl) fun cdv A outer s H E ds r hr hp => ?_
  have hu := hr.u100
  obtain ⟨T, s, g, keys, rfl, hT, hs, hg, hk, hc, rfl⟩ := hp
  apply ends_rt
  obtain ⟨tm, hmost⟩ := C.most
  have hf := few_of hT.2.2 hc
  refine pbd_drop (pd_call h_check_goal (hr.mono (by decide)) (pad_cons (pd_var 0 rfl) (pad_cons (pd_var 1 rfl) (pad_cons (pd_var 2 rfl) (pad_cons (pd_var 3 rfl) pad_nil)))) ⟨T, s, g, keys, rfl, hT, hs, hg, hk, rfl⟩) ?_
  refine b_no (ptd_cmp hu (pd_call h_stand_count (hr.mono (by decide)) (pad_cons (pd_var 0 rfl) pad_nil) ⟨T, rfl, hT, rfl⟩) (pd_gint rfl hmost) .gt) (decide_eq_false (by omega)) ?_
  exact b_ret (pd_call h_least_by (hr.mono (by decide)) (pad_cons (pd_var 0 rfl) (pad_cons (pd_var 1 rfl) (pad_cons (pd_var 2 rfl) (pad_cons (pd_var 3 rfl) (pad_cons (pd_gfn rfl h_push_ends.at_) pad_nil))))) ⟨T, s, g, keys, false, pEnds T keys, _, _, rfl, hT, hs, hf, has_pushEnds h_push_ends hT hk, fun s hs => pEnds_ok hT.2.2 hs, rfl⟩) rfl
def p_fewest_deeds (ds : List Sl) (r : PyData) : Prop := ∃ (T : List Part) (s g : List Int) (keys : List Int), ds = [D (dTrain T), D (dStand s), D (dStand g), D (dKeys keys)] ∧ trainOk T ∧ standOk T s ∧ standOk T g ∧ keysOk T keys ∧ countF T ≤ 500 ∧ r = dAns (leastA true (dEnds T keys) s g)
/-! fewest_deeds -/
theorem sc_fewest_deeds : FnScope ["train", "stand", "goal", "keys"] ["train", "stand", "goal", "keys"] (defScope s_fewest_deeds) := ⟨rfl, rfl, rfl, by decide +kernel, rfl, by decide +kernel, by decide +kernel⟩
theorem ok_fewest_deeds {f f_check_goal f_least_by f_deed_ends f_stand_count : Addr} {fd : FuncData} (F : FnP K "fewest_deeds" s_fewest_deeds f fd) (hm : mg "fewest_deeds" = some (.ref f)) (B : Frs mg) (h_check_goal : Has P w K mg base 6 "check_goal" ["train", "stand", "goal", "keys"] p_check_goal f_check_goal) (h_least_by : Has P w K mg base 6 "least_by" ["train", "stand", "goal", "keys", "ends_of"] (p_least_by P w K mg base) f_least_by) (h_deed_ends : Has P w K mg base 5 "deed_ends" ["train", "stand", "keys"] p_deed_ends f_deed_ends) (h_stand_count : Has P w K mg base 5 "stand_count" ["train"] p_stand_count f_stand_count) (C : Cs mg) : Has P w K mg base 7 "fewest_deeds" ["train", "stand", "goal", "keys"] p_fewest_deeds f := by
  refine has_of F hm sc_fewest_deeds (fun ds r h => by obtain ⟨T, s, g, keys, rfl, hT, hs, hg, hk, hc, rfl⟩ := h; rfl) (fun _ _ _ _ _ _ us hl => match us, hl with | [_, _, _, _], _ => rfl) fun cdv A outer s H E ds r hr hp => ?_
  have hu := hr.u100
  obtain ⟨T, s, g, keys, rfl, hT, hs, hg, hk, hc, rfl⟩ := hp
  apply ends_rt
  obtain ⟨tm, hmost⟩ := C.most
  have hf := few_of hT.2.2 hc
  refine pbd_drop (pd_call h_check_goal (hr.mono (by decide)) (pad_cons (pd_var 0 rfl) (pad_cons (pd_var 1 rfl) (pad_cons (pd_var 2 rfl) (pad_cons (pd_var 3 rfl) pad_nil)))) ⟨T, s, g, keys, rfl, hT, hs, hg, hk, rfl⟩) ?_
  refine b_no (ptd_cmp hu (pd_call h_stand_count (hr.mono (by decide)) (pad_cons (pd_var 0 rfl) pad_nil) ⟨T, rfl, hT, rfl⟩) (pd_gint rfl hmost) .gt) (decide_eq_false (by omega)) ?_
  exact b_ret (pd_call h_least_by (hr.mono (by decide)) (pad_cons (pd_var 0 rfl) (pad_cons (pd_var 1 rfl) (pad_cons (pd_var 2 rfl) (pad_cons (pd_var 3 rfl) (pad_cons (pd_gfn rfl h_deed_ends.at_) pad_nil))))) ⟨T, s, g, keys, true, dEnds T keys, _, _, rfl, hT, hs, hf, has_deedEnds h_deed_ends hT hk hf, fun s hs => dEnds_ok hT.2.2 hs, rfl⟩) rfl
end
end Ct

-- W6
set_option Elab.async false
set_option linter.all false
set_option maxRecDepth 100000
set_option maxHeartbeats 1000000
/-! W6: ways.py: the judges (printed by gen2.py from W6.src). -/
namespace Ct
open PySem PySem.Spec L2
section
variable {P : Program} {w : World} {K : PySem.W.Frag} {mg : Str → Option Value} {base : Heap}
theorem atI_zero {α : Type} {x : α} {xs : List α} : atI (x :: xs) 0 = some x := atI_nat (j := 0) rfl
theorem atI_one {α : Type} {x y : α} {xs : List α} : atI (x :: y :: xs) 1 = some y := atI_nat (j := 1) rfl
theorem eqvAll_tup (s : List Int) : PyData.eqv (dStand s) (dStand s) = true := by
  rw [PyData.eqv, eqv_ints]
  exact decide_eq_true rfl
theorem eqv_stand (a b : List Int) : PyData.eqv (dStand a) (dStand b) = decide (a = b) := by
  rw [PyData.eqv, eqv_ints]
theorem eqv_mem (i : Int) (l : List Int) : ((l.map PyData.int).any fun z => PyData.eqv z (.int i)) = decide (i ∈ l) := by
  rw [List.any_map, Bool.eq_iff_iff, List.any_eq_true, decide_eq_true_iff]
  constructor
  · rintro ⟨x, hx, h⟩
    have := (eqv_int_iff x i).mp h
    subst this
    exact hx
  · exact fun h => ⟨i, h, (eqv_int_iff i i).mpr rfl⟩
def p_is_push (ds : List Sl) (r : PyData) : Prop := ∃ (keys : List Int) (i way : Int), ds = [D (dKeys keys), D (.tuple [.int i, .int way])] ∧ i ∈ keys ∧ isWay way ∧ r = .bool true
/-! is_push -/
theorem sc_is_push : FnScope ["keys", "thing", "number"] ["keys", "thing"] (defScope s_is_push) := ⟨rfl, rfl, rfl, by decide +kernel, rfl, by decide +kernel, by decide +kernel⟩
theorem ok_is_push {f f_is_whole : Addr} {fd : FuncData} (F : FnP K "is_push" s_is_push f fd) (hm : mg "is_push" = some (.ref f)) (B : Frs mg) (h_is_whole : Has P w K mg base 1 "is_whole" ["thing"] p_is_whole f_is_whole)  : Has P w K mg base 2 "is_push" ["keys", "thing"] p_is_push f := by
  refine has_of F hm sc_is_push (fun ds r h => by obtain ⟨keys, i, wy, rfl, hi, hw, rfl⟩ := h; rfl) (fun _ _ _ _ _ _ us hl => match us, hl with | [_, _], _ => rfl) fun cdv A outer s H E ds r hr hp => ?_
  have hu := hr.u100
  obtain ⟨keys, i, wy, rfl, hi, hw, rfl⟩ := hp
  apply ends_rt
  refine b_no (ptd_w (w_orF (ptd_not (ptd_val (pd_isTuple B (pd_var 1 rfl)))) rfl (w_orF (ptd_cmp hu (pd_len B.len (pd_var 1 rfl) .tup) pd_int (.ne Ly.shp Ly.shp)) rfl (w_or1 (ptd_not (ptd_val (pd_allT [("number", 2)] ([i, wy]) .int rfl B.all sc_is_push.nd (pid_tup (pd_var 1 rfl)) (blkOk_by (N := ["keys", "thing", "number"]) (own := [("number", 2)]) (sc := defScope s_is_push) (by decide +kernel)) (fun x hx => ⟨_, fun _ _ _ _ _ => (pgw_name 2 sc_is_push.nd), fun _ _ _ _ _ => PED.eq (pd_call h_is_whole (hr.mono (by decide)) (pad_cons (pd_var 2 rfl) pad_nil) ⟨x, rfl, rfl⟩) rfl, rfl⟩) (small_size (by show 2 ≤ 100000; decide))))))))) rfl ?_
  refine b_ret (e_andT (pd_cmp hu (pd_ix (pd_var 1 rfl) pd_int (.tup rfl)) (pd_var 0 rfl) (.inL Ly.shp Ly.shp)) (by rw [eqv_mem]; exact decide_eq_true hi) (e_one (PED.eq (pd_cmp hu (pd_ix (pd_var 1 rfl) pd_int (.tup rfl)) (pd_lst (ps := [_, _]) (pad_cons pd_int (pad_cons (pd_bin pd_int pd_int .subI) pad_nil))) (.inL Ly.shp Ly.shp)) ?_))) rfl
  rcases hw with rfl | rfl <;> rfl
def p_is_numbered (ds : List Sl) (r : PyData) : Prop := ∃ (T : List Part) (s : List Int) (n : Int), ds = [D (dTrain T), D (dNum (s, n))] ∧ trainOk T ∧ standOk T s ∧ 0 ≤ n ∧ r = .bool true
/-! is_numbered -/
theorem sc_is_numbered : FnScope ["train", "thing"] ["train", "thing"] (defScope s_is_numbered) := ⟨rfl, rfl, rfl, by decide +kernel, rfl, by decide +kernel, by decide +kernel⟩
theorem ok_is_numbered {f f_is_stand f_is_whole : Addr} {fd : FuncData} (F : FnP K "is_numbered" s_is_numbered f fd) (hm : mg "is_numbered" = some (.ref f)) (B : Frs mg) (h_is_stand : Has P w K mg base 2 "is_stand" ["train", "thing"] p_is_stand f_is_stand) (h_is_whole : Has P w K mg base 1 "is_whole" ["thing"] p_is_whole f_is_whole)  : Has P w K mg base 3 "is_numbered" ["train", "thing"] p_is_numbered f := by
  refine has_of F hm sc_is_numbered (fun ds r h => by obtain ⟨T, s, n, rfl, hT, hs, hn, rfl⟩ := h; rfl) (fun _ _ _ _ _ _ us hl => match us, hl with | [_, _], _ => rfl) fun cdv A outer s H E ds r hr hp => ?_
  have hu := hr.u100
  obtain ⟨T, s, n, rfl, hT, hs, hn, rfl⟩ := hp
  apply ends_rt
  refine b_no (ptd_w (w_orF (ptd_not (ptd_val (pd_isTuple B (pd_var 1 rfl)))) rfl (w_or1 (ptd_cmp hu (pd_len B.len (pd_var 1 rfl) .tup) pd_int (.ne Ly.shp Ly.shp))))) rfl ?_
  exact b_ret (e_andT (pd_call h_is_stand (hr.mono (by decide)) (pad_cons (pd_var 0 rfl) (pad_cons (pd_ix (pd_var 1 rfl) pd_int (.tup rfl)) pad_nil)) ⟨T, s, rfl, hT, hs, rfl⟩) rfl (e_andT (pd_call h_is_whole (hr.mono (by decide)) (pad_cons (pd_ix (pd_var 1 rfl) pd_int (.tup rfl)) pad_nil) ⟨n, rfl, rfl⟩) rfl (e_one (PED.eq (pd_cmp hu (pd_ix (pd_var 1 rfl) pd_int (.tup rfl)) pd_int .ge) (congrArg PyData.bool (decide_eq_true hn)))))) rfl
def p_is_paper (ds : List Sl) (r : PyData) : Prop := ∃ (wd : Str) (l rest : List PyData), ds = [D (.tuple (.str wd :: .list l :: rest)), D (.str wd), D (.int ((rest.length + 2 : Nat) : Int))] ∧ PyData.strOk wd = true ∧ r = .bool true
/-! is_paper -/
theorem sc_is_paper : FnScope ["thing", "word", "many"] ["thing", "word", "many"] (defScope s_is_paper) := ⟨rfl, rfl, rfl, by decide +kernel, rfl, by decide +kernel, by decide +kernel⟩
theorem ok_is_paper {f  : Addr} {fd : FuncData} (F : FnP K "is_paper" s_is_paper f fd) (hm : mg "is_paper" = some (.ref f)) (B : Frs mg)   : Has P w K mg base 1 "is_paper" ["thing", "word", "many"] p_is_paper f := by
  refine has_of F hm sc_is_paper (fun ds r h => by obtain ⟨wd, l, rest, rfl, hw, rfl⟩ := h; rfl) (fun _ _ _ _ _ _ us hl => match us, hl with | [_, _, _], _ => rfl) fun cdv A outer s H E ds r hr hp => ?_
  have hu := hr.u100
  obtain ⟨wd, l, rest, rfl, hw, rfl⟩ := hp
  apply ends_rt
  haveI : Ly (.str wd) 0 := ⟨.str hw⟩
  refine b_no (ptd_w (w_orF (ptd_not (ptd_val (pd_isTuple B (pd_var 0 rfl)))) rfl (w_orF (ptd_cmp hu (pd_len B.len (pd_var 0 rfl) .tup) (pd_var 2 rfl) (.ne Ly.shp Ly.shp)) (by rw [eqv_int, decide_eq_true (by simp only [List.length_cons])]; rfl) (w_orF (ptd_not (ptd_val (pd_isStr B (pd_ix (pd_var 0 rfl) pd_int (.tup atI_zero))))) rfl (w_or1 (ptd_cmp hu (pd_ix (pd_var 0 rfl) pd_int (.tup atI_zero)) (pd_var 1 rfl) (.ne Ly.shp Ly.shp))))))) (by rw [eqv_str, decide_eq_true rfl]; rfl) ?_
  exact b_ret (pd_isList B (pd_ix (pd_var 0 rfl) pd_int (.tup atI_one))) rfl
def NumOk (T : List Part) (E : List Int → List (Stp × List Int)) (s g : List Int) (many : Int) (rows : List (List Int × Int)) : Prop :=
  (rows.map (·.1)).Nodup ∧ (∀ r ∈ rows, standOk T r.1 ∧ 0 ≤ r.2) ∧ rows.length ≤ 500 ∧ aGet rows s = some 0 ∧ aGet rows g = some many ∧ ∀ r ∈ rows, ∀ e ∈ E r.1, ∃ m, aGet rows e.2 = some m ∧ m ≤ r.2 + 1
theorem aPut_take {α β : Type} [DecidableEq α] {rows : List (α × β)} (hn : (rows.map (·.1)).Nodup) {k : Nat} {e : α × β} (h : rows[k]? = some e) : aPut (rows.take k) e.1 e.2 = rows.take (k + 1) := by
  rw [aPut_new, List.take_add_one, h]
  · rfl
  · rw [aGet_none]
    intro hm
    have hk := (List.getElem?_eq_some_iff.mp h).1
    have e1 : rows = rows.take k ++ rows.drop k := (List.take_append_drop k rows).symm
    rw [e1, List.map_append, List.nodup_append] at hn
    refine hn.2.2 e.1 hm e.1 ?_ rfl
    rw [List.drop_eq_getElem_cons hk, List.map_cons]
    rw [(List.getElem?_eq_some_iff.mp h).2]
    exact List.mem_cons_self
def p_numbers_hold (P : Program) (w : World) (K : PySem.W.Frag) (mg : Str → Option Value) (base : Heap) (ds : List Sl) (r : PyData) : Prop :=
  ∃ (T : List Part) (s g : List Int) (keys : List Int) (many : Int) (rows : List (List Int × Int)) (deed : Bool) (E : List Int → List (Stp × List Int)) (nm : Str) (fe : Addr), ds = [D (dTrain T), D (dStand s), D (dStand g), D (dKeys keys), D (.int many), D (.list (rows.map dNum)), .fn fe] ∧ trainOk T ∧
    Has P w K mg base 5 nm ["train", "stand", "keys"] (pEndsOf T keys deed E) fe ∧ NumOk T E s g many rows ∧ r = .bool true
/-! numbers_hold -/
theorem sc_numbers_hold : FnScope ["train", "stand", "goal", "keys", "many", "rows", "ends_of", "row", "numbers", "one", "number", "step", "behind"] ["train", "stand", "goal", "keys", "many", "rows", "ends_of"] (defScope s_numbers_hold) := ⟨rfl, rfl, rfl, by decide +kernel, rfl, by decide +kernel, by decide +kernel⟩
theorem ok_numbers_hold {f f_is_numbered : Addr} {fd : FuncData} (F : FnP K "numbers_hold" s_numbers_hold f fd) (hm : mg "numbers_hold" = some (.ref f)) (B : Frs mg) (h_is_numbered : Has P w K mg base 3 "is_numbered" ["train", "thing"] p_is_numbered f_is_numbered)  : Has P w K mg base 6 "numbers_hold" ["train", "stand", "goal", "keys", "many", "rows", "ends_of"] (p_numbers_hold P w K mg base) f := by
  refine has_of F hm sc_numbers_hold (fun ds r h => by obtain ⟨T, s, g, keys, many, rows, deed, En, nm, fe, rfl, hT, F_ends_of, hN, rfl⟩ := h; rfl) (fun _ _ _ _ _ _ us hl => match us, hl with | [_, _, _, _, _, _, _], _ => rfl) fun cdv A outer s H E ds r hr hp => ?_
  have hu := hr.u100
  obtain ⟨T, s, g, keys, many, rows, deed, En, nm, fe, rfl, hT, F_ends_of, hN, rfl⟩ := hp
  apply ends_rt
  obtain ⟨hnd, hok, hrl, h0, hm, hE⟩ := hN
  have hsz : sizeLine = 2 ^ 24 := rfl
  refine b_no (ptd_w (w_orF (ptd_not (ptd_val (pd_isList B (pd_var 5 rfl)))) rfl (w_or1 (ptd_not (ptd_val (pd_allT [("row", 7)] rows dNum rfl B.all sc_numbers_hold.nd (pid_list (pd_var 5 rfl)) (blkOk_by (N := ["train", "stand", "goal", "keys", "many", "rows", "ends_of", "row", "numbers", "one", "number", "step", "behind"]) (own := [("row", 7)]) (sc := defScope s_numbers_hold) (by decide +kernel)) (fun x hx => ⟨_, fun _ _ _ _ _ => (pgw_name 7 sc_numbers_hold.nd), fun _ _ _ _ _ => PED.eq (pd_call h_is_numbered (hr.mono (by decide)) (pad_cons (pd_var 0 rfl) (pad_cons (pd_var 7 rfl) pad_nil)) ⟨T, x.1, x.2, rfl, hT, (hok x hx).1, (hok x hx).2, rfl⟩) rfl, rfl⟩) (small_size (by omega)))))))) rfl ?_
  refine pbd_newK 8 sc_numbers_hold.nd ?_
  refine pbd_for rfl (pid_list (pd_var 5 rfl)) (fun k δ => ∃ s1 s2 s3 s4 : Sl, δ = [D (dTrain T), D (dStand s), D (dStand g), D (dKeys keys), D (.int many), D (.list (rows.map dNum)), .fn fe, .any, .dct (dEnt stKd .int (rows.take k)), s1, s2, s3, s4]) ?_ (fun k d δa hd hI => ?_) (fun δa hI => ?_)
  · exact ⟨.any, .any, .any, .any, rfl⟩
  · obtain ⟨s1, s2, s3, s4, rfl⟩ := hI
    rw [List.getElem?_map] at hd
    obtain ⟨e, he, rfl⟩ := Option.map_eq_some_iff.mp hd
    refine ⟨_, .nx [D (dTrain T), D (dStand s), D (dStand g), D (dKeys keys), D (.int many), D (.list (rows.map dNum)), .fn fe, .any, .dct (dEnt stKd .int (rows.take (k + 1))), D (dStand e.1), D (.int e.2), s3, s4], (pgd_tup rfl (pgds_cons (pgd_name 9 sc_numbers_hold.nd) (pgds_cons (pgd_name 10 sc_numbers_hold.nd) pgds_nil))), ?_, D (dStand e.1), D (.int e.2), s3, s4, rfl⟩
    refine pbd_putK (kd := stKd) (dv := .int) (M := rows.take k) (k := e.1) (v := e.2) 8 (pd_var 10 rfl) rfl hu (pd_var 9 rfl) (by rw [List.length_take]; omega) (pbd_nx ?_)
    rw [← aPut_take hnd he]
    rfl
  · obtain ⟨s1, s2, s3, s4, rfl⟩ := hI
    rw [List.length_map, List.take_length]
    refine b_no (ptd_w (w_orF (ptd_cmp hu (pd_lenK 8 B.len rfl) (pd_len B.len (pd_var 5 rfl) .lst) (.ne Ly.shp Ly.shp)) (by rw [eqv_int]; unfold dEnt; simp) (w_orF (ptd_ninK (kd := stKd) (dv := .int) (M := rows) (k := s) 8 rfl hu (pd_var 1 rfl)) (by rw [h0]; rfl) (w_or1 (ptd_ninK (kd := stKd) (dv := .int) (M := rows) (k := g) 8 rfl hu (pd_var 2 rfl)))))) (by rw [hm]; rfl) ?_
    refine b_no (ptd_w (w_orF (ptd_cmp hu (pd_getK (kd := stKd) (dv := .int) (M := rows) (k := s) 8 rfl hu (pd_var 1 rfl) h0) pd_int (.ne Ly.shp Ly.shp)) (by rw [eqv_int]; simp) (w_or1 (ptd_cmp hu (pd_getK (kd := stKd) (dv := .int) (M := rows) (k := g) 8 rfl hu (pd_var 2 rfl) hm) (pd_var 4 rfl) (.ne Ly.shp Ly.shp))))) (by rw [eqv_int]; simp) ?_
    refine pbd_for rfl (pid_list (pd_var 5 rfl)) (fun k δ => ∃ s1 s2 s3 s4 : Sl, δ = [D (dTrain T), D (dStand s), D (dStand g), D (dKeys keys), D (.int many), D (.list (rows.map dNum)), .fn fe, .any, .dct (dEnt stKd .int rows), s1, s2, s3, s4]) ?_ (fun k d δa hd hI => ?_) (fun δa hI => ?_)
    · exact ⟨s1, s2, s3, s4, rfl⟩
    · obtain ⟨s1, s2, s3, s4, rfl⟩ := hI
      rw [List.getElem?_map] at hd
      obtain ⟨e, he, rfl⟩ := Option.map_eq_some_iff.mp hd
      have hem := List.mem_of_getElem? he
      refine ⟨_, .nx [D (dTrain T), D (dStand s), D (dStand g), D (dKeys keys), D (.int many), D (.list (rows.map dNum)), .fn fe, .any, .dct (dEnt stKd .int rows), .any, .any, .any, .any], (pgd_tup rfl (pgds_cons (pgd_name 9 sc_numbers_hold.nd) (pgds_cons (pgd_name 10 sc_numbers_hold.nd) pgds_nil))), ?_, .any, .any, .any, .any, rfl⟩
      refine pbd_for rfl (items := (En e.1).map fun x => .tuple [dStep deed x.1, dStand x.2]) (pid_list (pd_callL 6 F_ends_of (hr.mono (by decide)) rfl (pad_cons (pd_var 0 rfl) (pad_cons (pd_var 9 rfl) (pad_cons (pd_var 3 rfl) pad_nil))) ⟨e.1, rfl, (hok e hem).1, rfl⟩)) (fun k δ => ∃ s3 s4 : Sl, δ = [D (dTrain T), D (dStand s), D (dStand g), D (dKeys keys), D (.int many), D (.list (rows.map dNum)), .fn fe, .any, .dct (dEnt stKd .int rows), D (dStand e.1), D (.int e.2), s3, s4]) ?_ (fun k d δa hd hI => ?_) (fun δa hI => ?_)
      · exact ⟨s3, s4, rfl⟩
      · obtain ⟨s3, s4, rfl⟩ := hI
        rw [List.getElem?_map] at hd
        obtain ⟨x, hx, rfl⟩ := Option.map_eq_some_iff.mp hd
        obtain ⟨m, hm1, hm2⟩ := hE e hem x (List.mem_of_getElem? hx)
        refine ⟨_, .nx [D (dTrain T), D (dStand s), D (dStand g), D (dKeys keys), D (.int many), D (.list (rows.map dNum)), .fn fe, .any, .dct (dEnt stKd .int rows), D (dStand e.1), D (.int e.2), D (dStep deed x.1), D (dStand x.2)], (pgd_tup rfl (pgds_cons (pgd_name 11 sc_numbers_hold.nd) (pgds_cons (pgd_name 12 sc_numbers_hold.nd) pgds_nil))), ?_, _, _, rfl⟩
        exact b_no (ptd_w (w_orF (ptd_ninK (kd := stKd) (dv := .int) (M := rows) (k := x.2) 8 rfl hu (pd_var 12 rfl)) (by rw [hm1]; rfl) (w_or1 (ptd_cmp hu (pd_getK (kd := stKd) (dv := .int) (M := rows) (k := x.2) 8 rfl hu (pd_var 12 rfl) hm1) (pd_bin (pd_var 10 rfl) pd_int .addI) .gt)))) (decide_eq_false (by omega)) (pbd_nx rfl)
      · obtain ⟨s3, s4, rfl⟩ := hI
        exact pbd_wipe [9, 10, 11, 12] (pbd_nx rfl)
    · obtain ⟨s1, s2, s3, s4, rfl⟩ := hI
      exact b_ret pd_bl rfl
def walkP (T : List Part) (s : List Int) (p : List Stp) : List Int := p.foldl (fun h st => push1 T h st.1 st.2.1) s
theorem walkP_ok {T : List Part} (hT : ∀ p ∈ T, p.ok) : ∀ {p : List Stp} {s : List Int}, standOk T s → (∀ st ∈ p, isWay st.2.1) → standOk T (walkP T s p)
  | [], _, hs, _ => hs
  | st :: p, s, hs, h => walkP_ok hT (p := p) (push1_ok hT hs (h st List.mem_cons_self)) fun x hx => h x (List.mem_cons_of_mem _ hx)
def RowOk (T : List Part) (keys s g : List Int) (p : List Stp) (ns : List (List Int × Int)) : Prop := p.length ≤ 1000 ∧ (∀ st ∈ p, st.1 ∈ keys ∧ isWay st.2.1) ∧ walkP T s p = g ∧ NumOk T (pEnds T keys) s g p.length ns
theorem dStep_false (p : Stp) : dStep false p = .tuple [.int p.1, .int p.2.1] := rfl
theorem dStep_true (p : Stp) : dStep true p = .tuple [.int p.1, .int p.2.1, .int p.2.2] := rfl
def p_shows_row (ds : List Sl) (r : PyData) : Prop := ∃ (T : List Part) (s g : List Int) (keys : List Int) (p : List Stp) (ns : List (List Int × Int)), ds = [D (dTrain T), D (dStand s), D (dStand g), D (dKeys keys), D (dAns (.row false p ns))] ∧ trainOk T ∧ standOk T s ∧ standOk T g ∧ keysOk T keys ∧ RowOk T keys s g p ns ∧ r = .bool true
/-! shows_row -/
theorem sc_shows_row : FnScope ["train", "stand", "goal", "keys", "thing", "push", "here", "i", "way"] ["train", "stand", "goal", "keys", "thing"] (defScope s_shows_row) := ⟨rfl, rfl, rfl, by decide +kernel, rfl, by decide +kernel, by decide +kernel⟩
theorem ok_shows_row {f f_check_goal f_numbers_hold f_push_ends f_is_paper f_pushed f_is_push : Addr} {fd : FuncData} (F : FnP K "shows_row" s_shows_row f fd) (hm : mg "shows_row" = some (.ref f)) (B : Frs mg) (h_check_goal : Has P w K mg base 6 "check_goal" ["train", "stand", "goal", "keys"] p_check_goal f_check_goal) (h_numbers_hold : Has P w K mg base 6 "numbers_hold" ["train", "stand", "goal", "keys", "many", "rows", "ends_of"] (p_numbers_hold P w K mg base) f_numbers_hold) (h_push_ends : Has P w K mg base 5 "push_ends" ["train", "stand", "keys"] p_push_ends f_push_ends) (h_is_paper : Has P w K mg base 1 "is_paper" ["thing", "word", "many"] p_is_paper f_is_paper) (h_pushed : Has P w K mg base 4 "pushed" ["train", "stand", "i", "way"] p_pushed f_pushed) (h_is_push : Has P w K mg base 2 "is_push" ["keys", "thing"] p_is_push f_is_push)  : Has P w K mg base 7 "shows_row" ["train", "stand", "goal", "keys", "thing"] p_shows_row f := by
  refine has_of F hm sc_shows_row (fun ds r h => by obtain ⟨T, s, g, keys, p, ns, rfl, hT, hs, hg, hk, hR, rfl⟩ := h; rfl) (fun _ _ _ _ _ _ us hl => match us, hl with | [_, _, _, _, _], _ => rfl) fun cdv A outer s H E ds r hr hp => ?_
  have hu := hr.u100
  obtain ⟨T, s, g, keys, p, ns, rfl, hT, hs, hg, hk, hR, rfl⟩ := hp
  apply ends_rt
  obtain ⟨hp, hst, hw, hN⟩ := hR
  have hl := keys_len hk
  have hl2 := hT.2.1
  refine pbd_drop (pd_call h_check_goal (hr.mono (by decide)) (pad_cons (pd_var 0 rfl) (pad_cons (pd_var 1 rfl) (pad_cons (pd_var 2 rfl) (pad_cons (pd_var 3 rfl) pad_nil)))) ⟨T, s, g, keys, rfl, hT, hs, hg, hk, rfl⟩) ?_
  refine b_no (ptd_w (w_orF (ptd_not (ptd_val (pd_call h_is_paper (hr.mono (by decide)) (pad_cons (pd_var 4 rfl) (pad_cons pd_str (pad_cons pd_int pad_nil))) ⟨"row", p.map (dStep false), [.list (ns.map dNum)], rfl, by decide +kernel, rfl⟩))) rfl (w_or1 (ptd_not (ptd_val (pd_allT [("push", 5)] p (dStep false) rfl B.all sc_shows_row.nd (pid_list (pd_ix (pd_var 4 rfl) pd_int (.tup rfl))) (blkOk_by (N := ["train", "stand", "goal", "keys", "thing", "push", "here", "i", "way"]) (own := [("push", 5)]) (sc := defScope s_shows_row) (by decide +kernel)) (fun x hx => ⟨_, fun _ _ _ _ _ => (pgw_name 5 sc_shows_row.nd), fun _ _ _ _ _ => PED.eq (pd_call h_is_push (hr.mono (by decide)) (pad_cons (pd_var 3 rfl) (pad_cons (pd_var 5 rfl) pad_nil)) ⟨keys, x.1, x.2.1, rfl, (hst x hx).1, (hst x hx).2, rfl⟩) rfl, rfl⟩) (small_size (by omega)))))))) rfl ?_
  refine pbd_set 6 sc_shows_row.nd (pd_var 1 rfl) ?_
  refine pbd_for rfl (items := p.map (dStep false)) (pid_list (pd_ix (pd_var 4 rfl) pd_int (.tup rfl))) (fun k δ => ∃ s1 s2 : Sl, δ = [D (dTrain T), D (dStand s), D (dStand g), D (dKeys keys), D (dAns (.row false p ns)), .any, D (dStand (walkP T s (p.take k))), s1, s2]) ?_ (fun k d δa hd hI => ?_) (fun δa hI => ?_)
  · exact ⟨.any, .any, rfl⟩
  · obtain ⟨s1, s2, rfl⟩ := hI
    rw [List.getElem?_map] at hd
    obtain ⟨e, he, rfl⟩ := Option.map_eq_some_iff.mp hd
    have hem := hst e (List.mem_of_getElem? he)
    have hek := hk.2 e.1 hem.1
    have hh := walkP_ok hT.2.2 (p := p.take k) hs fun st h => (hst st (List.mem_of_mem_take h)).2
    rw [dStep_false]
    refine ⟨_, _, (pgd_tup rfl (pgds_cons (pgd_name 7 sc_shows_row.nd) (pgds_cons (pgd_name 8 sc_shows_row.nd) pgds_nil))), pbd_set 6 sc_shows_row.nd (pd_ix (pd_call h_pushed (hr.mono (by decide)) (pad_cons (pd_var 0 rfl) (pad_cons (pd_var 6 rfl) (pad_cons (pd_var 7 rfl) (pad_cons (pd_var 8 rfl) pad_nil)))) ⟨T, _, e.1.toNat, e.2.1, ?_, hT, hh.len, ?_, hem.2, rfl⟩) pd_int (.tup rfl)) pbd_end, D (.int e.1), D (.int e.2.1), ?_⟩
    · rw [Int.toNat_of_nonneg hek.1]
    · omega
    · rw [List.take_add_one, he]
      unfold walkP
      rw [List.foldl_append]
      rfl
  · obtain ⟨s1, s2, rfl⟩ := hI
    rw [List.length_map, List.take_length, hw]
    have hnm : (((p.map (dStep false)).length : Nat) : Int) = p.length := by rw [List.length_map]
    refine b_ret (e_andT (pd_cmp hu (pd_var 6 rfl) (pd_var 2 rfl) (.eq Ly.shp Ly.shp)) ?_ (e_one (PED.eq (pd_call h_numbers_hold (hr.mono (by decide)) (pad_cons (pd_var 0 rfl) (pad_cons (pd_var 1 rfl) (pad_cons (pd_var 2 rfl) (pad_cons (pd_var 3 rfl) (pad_cons (pd_len B.len (pd_ix (pd_var 4 rfl) pd_int (.tup rfl)) .lst) (pad_cons (pd_ix (pd_var 4 rfl) pd_int (.tup rfl)) (pad_cons (pd_gfn rfl h_push_ends.at_) pad_nil))))))) ⟨T, s, g, keys, p.length, ns, false, pEnds T keys, _, _, by rw [hnm], hT, has_pushEnds h_push_ends hT hk, hN, rfl⟩) rfl))) rfl
    exact (eqvAll_tup g)
def DeedsOk (T : List Part) (keys s g : List Int) (p : List Stp) (ns : List (List Int × Int)) : Prop := p.length ≤ 1000 ∧ (∀ st ∈ p, st.1 ∈ keys ∧ 0 < st.2.2 ∧ deedOk T st) ∧ (walkF T p s 0).1 = g ∧ NumOk T (dEnds T keys) s g p.length ns
def p_shows_deeds (ds : List Sl) (r : PyData) : Prop := ∃ (T : List Part) (s g : List Int) (keys : List Int) (p : List Stp) (ns : List (List Int × Int)), ds = [D (dTrain T), D (dStand s), D (dStand g), D (dKeys keys), D (dAns (.row true p ns))] ∧ trainOk T ∧ standOk T s ∧ standOk T g ∧ keysOk T keys ∧ few T ∧ DeedsOk T keys s g p ns ∧ r = .bool true
/-! shows_deeds -/
theorem sc_shows_deeds : FnScope ["train", "stand", "goal", "keys", "thing", "deed"] ["train", "stand", "goal", "keys", "thing"] (defScope s_shows_deeds) := ⟨rfl, rfl, rfl, by decide +kernel, rfl, by decide +kernel, by decide +kernel⟩
theorem ok_shows_deeds {f f_check_goal f_numbers_hold f_deed_ends f_is_paper f_walked f_is_deed : Addr} {fd : FuncData} (F : FnP K "shows_deeds" s_shows_deeds f fd) (hm : mg "shows_deeds" = some (.ref f)) (B : Frs mg) (h_check_goal : Has P w K mg base 6 "check_goal" ["train", "stand", "goal", "keys"] p_check_goal f_check_goal) (h_numbers_hold : Has P w K mg base 6 "numbers_hold" ["train", "stand", "goal", "keys", "many", "rows", "ends_of"] (p_numbers_hold P w K mg base) f_numbers_hold) (h_deed_ends : Has P w K mg base 5 "deed_ends" ["train", "stand", "keys"] p_deed_ends f_deed_ends) (h_is_paper : Has P w K mg base 1 "is_paper" ["thing", "word", "many"] p_is_paper f_is_paper) (h_walked : Has P w K mg base 4 "walked" ["train", "stand", "row"] p_walked f_walked) (h_is_deed : Has P w K mg base 2 "is_deed" ["train", "thing"] p_is_deed f_is_deed)  : Has P w K mg base 7 "shows_deeds" ["train", "stand", "goal", "keys", "thing"] p_shows_deeds f := by
  refine has_of F hm sc_shows_deeds (fun ds r h => by obtain ⟨T, s, g, keys, p, ns, rfl, hT, hs, hg, hk, hf, hR, rfl⟩ := h; rfl) (fun _ _ _ _ _ _ us hl => match us, hl with | [_, _, _, _, _], _ => rfl) fun cdv A outer s H E ds r hr hp => ?_
  have hu := hr.u100
  obtain ⟨T, s, g, keys, p, ns, rfl, hT, hs, hg, hk, hf, hR, rfl⟩ := hp
  apply ends_rt
  obtain ⟨hp, hst, hw, hN⟩ := hR
  have hl := keys_len hk
  have hl2 := hT.2.1
  refine pbd_drop (pd_call h_check_goal (hr.mono (by decide)) (pad_cons (pd_var 0 rfl) (pad_cons (pd_var 1 rfl) (pad_cons (pd_var 2 rfl) (pad_cons (pd_var 3 rfl) pad_nil)))) ⟨T, s, g, keys, rfl, hT, hs, hg, hk, rfl⟩) ?_
  refine b_no (ptd_w (w_orF (ptd_not (ptd_val (pd_call h_is_paper (hr.mono (by decide)) (pad_cons (pd_var 4 rfl) (pad_cons pd_str (pad_cons pd_int pad_nil))) ⟨"row", p.map (dStep true), [.list (ns.map dNum)], rfl, by decide +kernel, rfl⟩))) rfl (w_or1 (ptd_not (ptd_val (pd_allT [("deed", 5)] p (dStep true) rfl B.all sc_shows_deeds.nd (pid_list (pd_ix (pd_var 4 rfl) pd_int (.tup rfl))) (blkOk_by (N := ["train", "stand", "goal", "keys", "thing", "deed"]) (own := [("deed", 5)]) (sc := defScope s_shows_deeds) (by decide +kernel)) (fun x hx => ⟨_, fun _ _ _ _ _ => (pgw_name 5 sc_shows_deeds.nd), fun _ _ _ _ _ => PED.eq (pd_call h_is_deed (hr.mono (by decide)) (pad_cons (pd_var 0 rfl) (pad_cons (pd_var 5 rfl) pad_nil)) ⟨T, x.1.toNat, x.2.1, x.2.2, ?_, ?_, (hst x hx).2.2.2.2.1, (hst x hx).2.2.2.2.2, rfl⟩) rfl, rfl⟩) (small_size (by omega)))))))) rfl ?_
  · rw [Int.toNat_of_nonneg (hst x hx).2.2.1]; rfl
  · have h := (hst x hx).2.2
    have h1 := h.1
    have h2 := h.2.1
    omega
  refine b_no (ptd_not (ptd_val (pd_allT [("deed", 5)] p (dStep true) rfl B.all sc_shows_deeds.nd (pid_list (pd_ix (pd_var 4 rfl) pd_int (.tup rfl))) (blkOk_by (N := ["train", "stand", "goal", "keys", "thing", "deed"]) (own := [("deed", 5)]) (sc := defScope s_shows_deeds) (by decide +kernel)) (fun x hx => ⟨_, fun _ _ _ _ _ => (pgw_name 5 sc_shows_deeds.nd), fun _ _ _ _ _ => PED.eq (e_andT (pd_cmp hu (pd_ix (pd_var 5 rfl) pd_int (.tup rfl)) (pd_var 3 rfl) (.inL Ly.shp Ly.shp)) (by rw [eqv_mem]; exact decide_eq_true (hst x hx).1) (e_one (PED.eq (pd_cmp hu (pd_ix (pd_var 5 rfl) pd_int (.tup rfl)) pd_int .gt) (congrArg PyData.bool (decide_eq_true (hst x hx).2.1))))) rfl, rfl⟩) (small_size (by omega))))) rfl ?_
  refine b_no (ptd_cmp hu (pd_ix (pd_call h_walked (hr.mono (by decide)) (pad_cons (pd_var 0 rfl) (pad_cons (pd_var 1 rfl) (pad_cons (pd_ix (pd_var 4 rfl) pd_int (.tup rfl)) pad_nil))) ⟨T, s, p, rfl, hT, hs, hp, fun d hd => (hst d hd).2.2, rfl⟩) pd_int (.tup rfl)) (pd_var 2 rfl) (.ne Ly.shp Ly.shp)) (by rw [eqv_stand, hw, decide_eq_true rfl]; rfl) ?_
  have hnm : (((p.map (dStep true)).length : Nat) : Int) = p.length := by rw [List.length_map]
  exact b_ret (pd_call h_numbers_hold (hr.mono (by decide)) (pad_cons (pd_var 0 rfl) (pad_cons (pd_var 1 rfl) (pad_cons (pd_var 2 rfl) (pad_cons (pd_var 3 rfl) (pad_cons (pd_len B.len (pd_ix (pd_var 4 rfl) pd_int (.tup rfl)) .lst) (pad_cons (pd_ix (pd_var 4 rfl) pd_int (.tup rfl)) (pad_cons (pd_gfn rfl h_deed_ends.at_) pad_nil))))))) ⟨T, s, g, keys, p.length, ns, true, dEnds T keys, _, _, by rw [hnm], hT, has_deedEnds h_deed_ends hT hk hf, hN, rfl⟩) rfl
def NeverOk (T : List Part) (keys s g : List Int) (ss : List (List Int)) : Prop := ss.Nodup ∧ (∀ x ∈ ss, standOk T x) ∧ ss.length ≤ 500 ∧ s ∈ ss ∧ g ∉ ss ∧ ∀ x ∈ ss, ∀ e ∈ pEnds T keys x, e.2 ∈ ss
def p_shows_never (ds : List Sl) (r : PyData) : Prop := ∃ (T : List Part) (s g : List Int) (keys : List Int) (ss : List (List Int)), ds = [D (dTrain T), D (dStand s), D (dStand g), D (dKeys keys), D (dAns (.never ss))] ∧ trainOk T ∧ standOk T s ∧ standOk T g ∧ keysOk T keys ∧ NeverOk T keys s g ss ∧ r = .bool true
theorem metD_take {ss : List (List Int)} (hn : ss.Nodup) {k : Nat} {x : List Int} (h : ss[k]? = some x) : aPut (metD (ss.take k)) x true = metD (ss.take (k + 1)) := by
  have e : metD (ss.take k) = (metD ss).take k := by unfold metD; rw [List.map_take]
  have e2 : metD (ss.take (k + 1)) = (metD ss).take (k + 1) := by unfold metD; rw [List.map_take]
  rw [e, e2]
  exact aPut_take (rows := metD ss) (e := (x, true)) (by unfold metD; rw [List.map_map]; simpa [Function.comp_def] using hn) (by unfold metD; rw [List.getElem?_map, h]; rfl)
/-! shows_never -/
theorem sc_shows_never : FnScope ["train", "stand", "goal", "keys", "thing", "one", "known", "push", "behind"] ["train", "stand", "goal", "keys", "thing"] (defScope s_shows_never) := ⟨rfl, rfl, rfl, by decide +kernel, rfl, by decide +kernel, by decide +kernel⟩
theorem ok_shows_never {f f_check_goal f_push_ends f_is_paper f_is_stand : Addr} {fd : FuncData} (F : FnP K "shows_never" s_shows_never f fd) (hm : mg "shows_never" = some (.ref f)) (B : Frs mg) (h_check_goal : Has P w K mg base 6 "check_goal" ["train", "stand", "goal", "keys"] p_check_goal f_check_goal) (h_push_ends : Has P w K mg base 5 "push_ends" ["train", "stand", "keys"] p_push_ends f_push_ends) (h_is_paper : Has P w K mg base 1 "is_paper" ["thing", "word", "many"] p_is_paper f_is_paper) (h_is_stand : Has P w K mg base 2 "is_stand" ["train", "thing"] p_is_stand f_is_stand)  : Has P w K mg base 7 "shows_never" ["train", "stand", "goal", "keys", "thing"] p_shows_never f := by
  refine has_of F hm sc_shows_never (fun ds r h => by obtain ⟨T, s, g, keys, ss, rfl, hT, hs, hg, hk, hR, rfl⟩ := h; rfl) (fun _ _ _ _ _ _ us hl => match us, hl with | [_, _, _, _, _], _ => rfl) fun cdv A outer s H E ds r hr hp => ?_
  have hu := hr.u100
  obtain ⟨T, s, g, keys, ss, rfl, hT, hs, hg, hk, hR, rfl⟩ := hp
  apply ends_rt
  obtain ⟨hnd, hok, hsl, hsi, hgo, hcl⟩ := hR
  have hl := keys_len hk
  have hl2 := hT.2.1
  have hsz : sizeLine = 2 ^ 24 := rfl
  refine pbd_drop (pd_call h_check_goal (hr.mono (by decide)) (pad_cons (pd_var 0 rfl) (pad_cons (pd_var 1 rfl) (pad_cons (pd_var 2 rfl) (pad_cons (pd_var 3 rfl) pad_nil)))) ⟨T, s, g, keys, rfl, hT, hs, hg, hk, rfl⟩) ?_
  refine b_no (ptd_w (w_orF (ptd_not (ptd_val (pd_call h_is_paper (hr.mono (by decide)) (pad_cons (pd_var 4 rfl) (pad_cons pd_str (pad_cons pd_int pad_nil))) ⟨"never", ss.map dStand, [], rfl, by decide +kernel, rfl⟩))) rfl (w_or1 (ptd_not (ptd_val (pd_allT [("one", 5)] ss dStand rfl B.all sc_shows_never.nd (pid_list (pd_ix (pd_var 4 rfl) pd_int (.tup rfl))) (blkOk_by (N := ["train", "stand", "goal", "keys", "thing", "one", "known", "push", "behind"]) (own := [("one", 5)]) (sc := defScope s_shows_never) (by decide +kernel)) (fun x hx => ⟨_, fun _ _ _ _ _ => (pgw_name 5 sc_shows_never.nd), fun _ _ _ _ _ => PED.eq (pd_call h_is_stand (hr.mono (by decide)) (pad_cons (pd_var 0 rfl) (pad_cons (pd_var 5 rfl) pad_nil)) ⟨T, x, rfl, hT, hok x hx, rfl⟩) rfl, rfl⟩) (small_size (by omega)))))))) rfl ?_
  refine pbd_newK 6 sc_shows_never.nd ?_
  refine pbd_for rfl (items := ss.map dStand) (pid_list (pd_ix (pd_var 4 rfl) pd_int (.tup rfl))) (fun k δ => ∃ s1 s2 s3 : Sl, δ = [D (dTrain T), D (dStand s), D (dStand g), D (dKeys keys), D (dAns (.never ss)), s1, .dct (dEnt stKd .bool (metD (ss.take k))), s2, s3]) ?_ (fun k d δa hd hI => ?_) (fun δa hI => ?_)
  · exact ⟨.any, .any, .any, rfl⟩
  · obtain ⟨s1, s2, s3, rfl⟩ := hI
    rw [List.getElem?_map] at hd
    obtain ⟨x, hx, rfl⟩ := Option.map_eq_some_iff.mp hd
    refine ⟨_, .nx [D (dTrain T), D (dStand s), D (dStand g), D (dKeys keys), D (dAns (.never ss)), D (dStand x), .dct (dEnt stKd .bool (metD (ss.take (k + 1)))), s2, s3], (pgd_name 5 sc_shows_never.nd), ?_, D (dStand x), s2, s3, rfl⟩
    refine pbd_putK (kd := stKd) (dv := .bool) (M := metD (ss.take k)) (k := x) (v := true) 6 pd_bl rfl hu (pd_var 5 rfl) (by unfold metD; rw [List.length_map, List.length_take]; omega) (pbd_nx ?_)
    rw [← metD_take hnd hx]
    rfl
  · obtain ⟨s1, s2, s3, rfl⟩ := hI
    rw [List.length_map, List.take_length]
    refine b_no (ptd_w (w_orF (ptd_cmp hu (pd_lenK 6 B.len rfl) (pd_len B.len (pd_ix (pd_var 4 rfl) pd_int (.tup rfl)) .lst) (.ne Ly.shp Ly.shp)) (by rw [eqv_int]; unfold dEnt metD; simp) (w_orF (ptd_ninK (kd := stKd) (dv := .bool) (M := metD ss) (k := s) 6 rfl hu (pd_var 1 rfl)) (by rw [metD_get, decide_eq_true hsi]; rfl) (w_or1 (ptd_inK (kd := stKd) (dv := .bool) (M := metD ss) (k := g) 6 rfl hu (pd_var 2 rfl)))))) (by rw [metD_get, decide_eq_false hgo]) ?_
    refine pbd_for rfl (items := ss.map dStand) (pid_list (pd_ix (pd_var 4 rfl) pd_int (.tup rfl))) (fun k δ => ∃ s1 s2 s3 : Sl, δ = [D (dTrain T), D (dStand s), D (dStand g), D (dKeys keys), D (dAns (.never ss)), s1, .dct (dEnt stKd .bool (metD ss)), s2, s3]) ?_ (fun k d δa hd hI => ?_) (fun δa hI => ?_)
    · exact ⟨s1, s2, s3, rfl⟩
    · obtain ⟨s1, s2, s3, rfl⟩ := hI
      rw [List.getElem?_map] at hd
      obtain ⟨x, hx, rfl⟩ := Option.map_eq_some_iff.mp hd
      have hxm := List.mem_of_getElem? hx
      refine ⟨_, .nx [D (dTrain T), D (dStand s), D (dStand g), D (dKeys keys), D (dAns (.never ss)), .any, .dct (dEnt stKd .bool (metD ss)), .any, .any], (pgd_name 5 sc_shows_never.nd), ?_, .any, .any, .any, rfl⟩
      refine pbd_for rfl (items := (pEnds T keys x).map fun e => .tuple [dStep false e.1, dStand e.2]) (pid_list (pd_call h_push_ends (hr.mono (by decide)) (pad_cons (pd_var 0 rfl) (pad_cons (pd_var 5 rfl) (pad_cons (pd_var 3 rfl) pad_nil))) ⟨T, x, keys, rfl, hT, hok x hxm, hk, rfl⟩)) (fun k δ => ∃ s2 s3 : Sl, δ = [D (dTrain T), D (dStand s), D (dStand g), D (dKeys keys), D (dAns (.never ss)), D (dStand x), .dct (dEnt stKd .bool (metD ss)), s2, s3]) ?_ (fun k d δa hd hI => ?_) (fun δa hI => ?_)
      · exact ⟨s2, s3, rfl⟩
      · obtain ⟨s2, s3, rfl⟩ := hI
        rw [List.getElem?_map] at hd
        obtain ⟨e, he, rfl⟩ := Option.map_eq_some_iff.mp hd
        have hin := hcl x hxm e (List.mem_of_getElem? he)
        refine ⟨_, .nx [D (dTrain T), D (dStand s), D (dStand g), D (dKeys keys), D (dAns (.never ss)), D (dStand x), .dct (dEnt stKd .bool (metD ss)), D (dStep false e.1), D (dStand e.2)], (pgd_tup rfl (pgds_cons (pgd_name 7 sc_shows_never.nd) (pgds_cons (pgd_name 8 sc_shows_never.nd) pgds_nil))), ?_, _, _, rfl⟩
        exact b_no (ptd_ninK (kd := stKd) (dv := .bool) (M := metD ss) (k := e.2) 6 rfl hu (pd_var 8 rfl)) (by rw [metD_get, decide_eq_true hin]; rfl) (pbd_nx rfl)
      · obtain ⟨s2, s3, rfl⟩ := hI
        exact pbd_wipe [5, 7, 8] (pbd_nx rfl)
    · obtain ⟨s1, s2, s3, rfl⟩ := hI
      exact b_ret pd_bl rfl
end
end Ct

-- W7
set_option Elab.async false
set_option linter.all false
set_option maxRecDepth 100000
set_option maxHeartbeats 1000000
/-! W7: shows.py (printed by gen2.py from W7.src). -/
namespace Ct
open PySem PySem.Spec L2
section
variable {P : Program} {w : World} {K : PySem.W.Frag} {mg : Str → Option Value} {base : Heap}
def p_pair_pushed (ds : List Sl) (r : PyData) : Prop := ∃ (T U : List Part) (p : Pr) (way : Int), ds = [D (dTrain T), D (dTrain U), D (dPair p), D (.int way)] ∧ trainOk T ∧ trainOk U ∧ prOk T U p ∧ isWay way ∧ r = .tuple [dPair (prNext T U p way), .int (prS1 T p way), .int (prS2 U p way)]
/-! pair_pushed -/
theorem sc_pair_pushed : FnScope ["train", "other", "pair", "way", "here", "shown", "there", "more"] ["train", "other", "pair", "way"] (defScope s_pair_pushed) := ⟨rfl, rfl, rfl, by decide +kernel, rfl, by decide +kernel, by decide +kernel⟩
theorem ok_pair_pushed {f f_pushed : Addr} {fd : FuncData} (F : FnP K "pair_pushed" s_pair_pushed f fd) (hm : mg "pair_pushed" = some (.ref f)) (B : Frs mg) (h_pushed : Has P w K mg base 4 "pushed" ["train", "stand", "i", "way"] p_pushed f_pushed)  : Has P w K mg base 5 "pair_pushed" ["train", "other", "pair", "way"] p_pair_pushed f := by
  refine has_of F hm sc_pair_pushed (fun ds r h => by obtain ⟨T, U, p, wy, rfl, hT, hU, hp, hw, rfl⟩ := h; rfl) (fun _ _ _ _ _ _ us hl => match us, hl with | [_, _, _, _], _ => rfl) fun cdv A outer s H E ds r hr hp => ?_
  have hu := hr.u100
  obtain ⟨T, U, p, wy, rfl, hT, hU, hp, hw, rfl⟩ := hp
  apply ends_rt
  refine pbd_asg (pd_call h_pushed (hr.mono (by decide)) (pad_cons (pd_var 0 rfl) (pad_cons (pd_ix (pd_var 2 rfl) pd_int (.tup rfl)) (pad_cons pd_int (pad_cons (pd_var 3 rfl) pad_nil)))) ⟨T, p.1, 0, wy, rfl, hT, hp.1.len, Nat.zero_le _, hw, rfl⟩) (pgd_tup rfl (pgds_cons (pgd_name 4 sc_pair_pushed.nd) (pgds_cons (pgd_name 5 sc_pair_pushed.nd) pgds_nil))) ?_
  refine pbd_asg (pd_call h_pushed (hr.mono (by decide)) (pad_cons (pd_var 1 rfl) (pad_cons (pd_ix (pd_var 2 rfl) pd_int (.tup rfl)) (pad_cons pd_int (pad_cons (pd_var 3 rfl) pad_nil)))) ⟨U, p.2, 0, wy, rfl, hU, hp.2.len, Nat.zero_le _, hw, rfl⟩) (pgd_tup rfl (pgds_cons (pgd_name 6 sc_pair_pushed.nd) (pgds_cons (pgd_name 7 sc_pair_pushed.nd) pgds_nil))) ?_
  exact b_ret (pd_tup (ps := [_, _, _]) (pad_cons (pd_tup (ps := [_, _]) (pad_cons (pd_var 4 rfl) (pad_cons (pd_var 6 rfl) pad_nil))) (pad_cons (pd_var 5 rfl) (pad_cons (pd_var 7 rfl) pad_nil)))) rfl
def p_is_way (ds : List Sl) (r : PyData) : Prop := ∃ way : Int, ds = [D (.int way)] ∧ isWay way ∧ r = .bool true
/-! is_way -/
theorem sc_is_way : FnScope ["thing"] ["thing"] (defScope s_is_way) := ⟨rfl, rfl, rfl, by decide +kernel, rfl, by decide +kernel, by decide +kernel⟩
theorem ok_is_way {f  : Addr} {fd : FuncData} (F : FnP K "is_way" s_is_way f fd) (hm : mg "is_way" = some (.ref f)) (B : Frs mg)   : Has P w K mg base 1 "is_way" ["thing"] p_is_way f := by
  refine has_of F hm sc_is_way (fun ds r h => by obtain ⟨wy, rfl, hw, rfl⟩ := h; rfl) (fun _ _ _ _ _ _ us hl => match us, hl with | [_], _ => rfl) fun cdv A outer s H E ds r hr hp => ?_
  have hu := hr.u100
  obtain ⟨wy, rfl, hw, rfl⟩ := hp
  refine ends_rt (b_ret (e_andT (pd_isInt B (pd_var 0 rfl)) rfl (e_andT (pd_not (pd_isBool B (pd_var 0 rfl))) rfl (e_one (PED.eq (pd_cmp hu (pd_var 0 rfl) (pd_lst (ps := [_, _]) (pad_cons pd_int (pad_cons (pd_bin pd_int pd_int .subI) pad_nil))) (.inL Ly.shp Ly.shp)) ?_)))) rfl)
  rcases hw with rfl | rfl <;> rfl
def p_is_pair (ds : List Sl) (r : PyData) : Prop := ∃ (T U : List Part) (p : Pr), ds = [D (dTrain T), D (dTrain U), D (dPair p)] ∧ trainOk T ∧ trainOk U ∧ prOk T U p ∧ r = .bool true
/-! is_pair -/
theorem sc_is_pair : FnScope ["train", "other", "thing"] ["train", "other", "thing"] (defScope s_is_pair) := ⟨rfl, rfl, rfl, by decide +kernel, rfl, by decide +kernel, by decide +kernel⟩
theorem ok_is_pair {f f_is_stand : Addr} {fd : FuncData} (F : FnP K "is_pair" s_is_pair f fd) (hm : mg "is_pair" = some (.ref f)) (B : Frs mg) (h_is_stand : Has P w K mg base 2 "is_stand" ["train", "thing"] p_is_stand f_is_stand)  : Has P w K mg base 3 "is_pair" ["train", "other", "thing"] p_is_pair f := by
  refine has_of F hm sc_is_pair (fun ds r h => by obtain ⟨T, U, p, rfl, hT, hU, hp, rfl⟩ := h; rfl) (fun _ _ _ _ _ _ us hl => match us, hl with | [_, _, _], _ => rfl) fun cdv A outer s H E ds r hr hp => ?_
  have hu := hr.u100
  obtain ⟨T, U, p, rfl, hT, hU, hp, rfl⟩ := hp
  apply ends_rt
  refine b_no (ptd_w (w_orF (ptd_not (ptd_val (pd_isTuple B (pd_var 2 rfl)))) rfl (w_or1 (ptd_cmp hu (pd_len B.len (pd_var 2 rfl) .tup) pd_int (.ne Ly.shp Ly.shp))))) rfl ?_
  exact b_ret (e_andT (pd_call h_is_stand (hr.mono (by decide)) (pad_cons (pd_var 0 rfl) (pad_cons (pd_ix (pd_var 2 rfl) pd_int (.tup rfl)) pad_nil)) ⟨T, p.1, rfl, hT, hp.1, rfl⟩) rfl (e_one (PED.eq (pd_call h_is_stand (hr.mono (by decide)) (pad_cons (pd_var 1 rfl) (pad_cons (pd_ix (pd_var 2 rfl) pd_int (.tup rfl)) pad_nil)) ⟨U, p.2, rfl, hU, hp.2, rfl⟩) rfl))) rfl
theorem isWay_at {ws : List Int} {k : Nat} {x : Int} (h : ∀ w ∈ ws, isWay w) (e : ws[k]? = some x) : isWay x := h x (List.mem_of_getElem? e)
theorem goP_ok {T U : List Part} (hT : ∀ p ∈ T, p.ok) (hU : ∀ p ∈ U, p.ok) : ∀ {ws : List Int} {p : Pr}, prOk T U p → (∀ w ∈ ws, isWay w) → prOk T U (goP T U p ws)
  | [], _, h, _ => h
  | w :: ws, p, h, k => goP_ok hT hU (ws := ws) (prNext_ok hT hU h (k w List.mem_cons_self)) fun x hx => k x (List.mem_cons_of_mem _ hx)
def p_are_apart (ds : List Sl) (r : PyData) : Prop := ∃ (T U : List Part) (s : Pr) (ws : List Int), ds = [D (dTrain T), D (dStand s.1), D (dTrain U), D (dStand s.2), D (.list (ws.map .int))] ∧ trainOk T ∧ trainOk U ∧ prOk T U s ∧ ApartOk T U s ws ∧ r = .bool true
/-! are_apart -/
theorem sc_are_apart : FnScope ["train", "stand", "other", "there", "pushes", "way", "pair", "shown", "more"] ["train", "stand", "other", "there", "pushes"] (defScope s_are_apart) := ⟨rfl, rfl, rfl, by decide +kernel, rfl, by decide +kernel, by decide +kernel⟩
theorem ok_are_apart {f f_pair_pushed f_is_way : Addr} {fd : FuncData} (F : FnP K "are_apart" s_are_apart f fd) (hm : mg "are_apart" = some (.ref f)) (B : Frs mg) (h_pair_pushed : Has P w K mg base 5 "pair_pushed" ["train", "other", "pair", "way"] p_pair_pushed f_pair_pushed) (h_is_way : Has P w K mg base 1 "is_way" ["thing"] p_is_way f_is_way)  : Has P w K mg base 6 "are_apart" ["train", "stand", "other", "there", "pushes"] p_are_apart f := by
  refine has_of F hm sc_are_apart (fun ds r h => by obtain ⟨T, U, s, ws, rfl, hT, hU, hs, hA, rfl⟩ := h; rfl) (fun _ _ _ _ _ _ us hl => match us, hl with | [_, _, _, _, _], _ => rfl) fun cdv A outer s H E ds r hr hp => ?_
  have hu := hr.u100
  obtain ⟨T, U, s, ws, rfl, hT, hU, hs, hA, rfl⟩ := hp
  apply ends_rt
  obtain ⟨hw, hl, q, w0, rfl, hne⟩ := hA
  refine b_no (ptd_w (w_orF (ptd_cmp hu (pd_var 4 rfl) (pd_lst (ps := []) pad_nil) (.eq Ly.shp Ly.shp)) ?_ (w_or1 (ptd_not (ptd_val (pd_allT [("way", 5)] (q ++ [w0]) .int rfl B.all sc_are_apart.nd (pid_list (pd_var 4 rfl)) (blkOk_by (N := ["train", "stand", "other", "there", "pushes", "way", "pair", "shown", "more"]) (own := [("way", 5)]) (sc := defScope s_are_apart) (by decide +kernel)) (fun x hx => ⟨_, fun _ _ _ _ _ => (pgw_name 5 sc_are_apart.nd), fun _ _ _ _ _ => PED.eq (pd_call h_is_way (hr.mono (by decide)) (pad_cons (pd_var 5 rfl) pad_nil) ⟨x, rfl, hw x hx, rfl⟩) rfl, rfl⟩) (small_size (by omega)))))))) rfl ?_
  · cases q <;> simp [PyData.eqv, PyData.eqvAll]
  refine pbd_set 6 sc_are_apart.nd (pd_tup (ps := [_, _]) (pad_cons (pd_var 1 rfl) (pad_cons (pd_var 3 rfl) pad_nil))) ?_
  refine pbd_for rfl (pid_list (pd_var 4 rfl)) (fun k δ => ∃ s0 s1 s2 : Sl, (0 < k → ∃ w, (q ++ [w0])[k - 1]? = some w ∧ s1 = D (.int (prS1 T (goP T U s ((q ++ [w0]).take (k - 1))) w)) ∧ s2 = D (.int (prS2 U (goP T U s ((q ++ [w0]).take (k - 1))) w))) ∧
      δ = [D (dTrain T), D (dStand s.1), D (dTrain U), D (dStand s.2), D (.list ((q ++ [w0]).map .int)), s0, D (dPair (goP T U s ((q ++ [w0]).take k))), s1, s2]) ?_ (fun k d δa hd hI => ?_) (fun δa hI => ?_)
  · exact ⟨.any, .any, .any, fun h => absurd h (Nat.lt_irrefl 0), rfl⟩
  · obtain ⟨s0, s1, s2, _, rfl⟩ := hI
    rw [List.getElem?_map] at hd
    obtain ⟨x, hx, rfl⟩ := Option.map_eq_some_iff.mp hd
    have hpo := goP_ok hT.2.2 hU.2.2 (ws := (q ++ [w0]).take k) hs fun w h => hw w (List.mem_of_mem_take h)
    refine ⟨_, _, (pgd_name 5 sc_are_apart.nd), pbd_asg (pd_call h_pair_pushed (hr.mono (by decide)) (pad_cons (pd_var 0 rfl) (pad_cons (pd_var 2 rfl) (pad_cons (pd_var 6 rfl) (pad_cons (pd_var 5 rfl) pad_nil)))) ⟨T, U, _, x, rfl, hT, hU, hpo, isWay_at hw hx, rfl⟩) (pgd_tup rfl (pgds_cons (pgd_name 6 sc_are_apart.nd) (pgds_cons (pgd_name 7 sc_are_apart.nd) (pgds_cons (pgd_name 8 sc_are_apart.nd) pgds_nil)))) pbd_end, D (.int x), D (.int (prS1 T (goP T U s ((q ++ [w0]).take k)) x)), D (.int (prS2 U (goP T U s ((q ++ [w0]).take k)) x)), fun _ => ⟨x, ?_, rfl, rfl⟩, ?_⟩
    · exact hx
    · rw [List.take_add_one, hx]
      unfold goP
      rw [List.foldl_append]
      rfl
  · obtain ⟨s0, s1, s2, h, rfl⟩ := hI
    rw [List.length_map] at h
    have hlen : (q ++ [w0]).length = q.length + 1 := by rw [List.length_append]; rfl
    obtain ⟨w1, e1, rfl, rfl⟩ := h (by rw [hlen]; omega)
    rw [hlen, Nat.add_sub_cancel, List.getElem?_append_right (Nat.le_refl _), Nat.sub_self] at e1
    cases e1
    have et : (q ++ [w0]).take ((q ++ [w0]).length - 1) = q := by rw [hlen, Nat.add_sub_cancel]; exact List.take_left' rfl
    rw [et]
    refine b_ret (pd_cmp hu (pd_var 7 rfl) (pd_var 8 rfl) (.ne Ly.shp Ly.shp)) (congrArg PyData.bool ?_)
    rw [eqv_int, decide_eq_false hne]
    rfl
theorem zip_tailG {α : Type} (f : α → PyData) (l : List α) : zipD (l.map f) (cutD (l.map f) (some 1) none) = (l.zip l.tail).map fun p => .tuple [f p.1, f p.2] := by
  rw [cutD_tail, ← List.map_tail]
  exact zipD_map l l.tail
theorem zip_lt {α : Type} {R : α → α → Prop} : ∀ {l : List α}, l.Pairwise R → ∀ p ∈ l.zip l.tail, R p.1 p.2
  | [], _, p, hp => by cases hp
  | [_], _, p, hp => by cases hp
  | a :: b :: l, h, p, hp => by
    rw [List.pairwise_cons] at h
    rcases List.mem_cons.mp hp with rfl | hp
    · exact h.1 b List.mem_cons_self
    · exact zip_lt h.2 p hp
theorem eqv_memP (p : Pr) (l : List Pr) : ((l.map dPair).any fun z => PyData.eqv z (dPair p)) = decide (p ∈ l) := by
  rw [List.any_map, Bool.eq_iff_iff, List.any_eq_true, decide_eq_true_iff]
  constructor
  · rintro ⟨x, hx, h⟩
    have h' : PyData.eqv (dPair x) (dPair p) = true := h
    rw [eqv_pair] at h'
    have := of_decide_eq_true h'
    subst this
    exact hx
  · exact fun h => ⟨p, h, by show PyData.eqv (dPair p) (dPair p) = true; rw [eqv_pair]; exact decide_eq_true rfl⟩
def p_are_closed (ds : List Sl) (r : PyData) : Prop := ∃ (T U : List Part) (s : Pr) (ps : List Pr), ds = [D (dTrain T), D (dTrain U), D (dPair s), D (.list (ps.map dPair))] ∧ trainOk T ∧ trainOk U ∧ prOk T U s ∧ AlikeOk T U s ps ∧ r = .bool true
theorem aPuts_get {α : Type} [DecidableEq α] : ∀ (l : List α) (M : List (α × Bool)) (x : α), (aGet (aPuts M (l.map fun a => (a, true))) x).isSome = ((aGet M x).isSome || decide (x ∈ l))
  | [], M, x => by simp [aPuts]
  | a :: l, M, x => by
    show (aGet (aPuts (aPut M a true) (l.map fun a => (a, true))) x).isSome = _
    rw [aPuts_get l]
    have : (aGet (aPut M a true) x).isSome = ((aGet M x).isSome || decide (x = a)) := by
      rw [Bool.eq_iff_iff, Bool.or_eq_true, aGet_isSome, aGet_isSome, decide_eq_true_iff]
      unfold aPut
      split
      · rename_i h
        have hm := aGet_isSome.mp h
        rw [List.map_map]
        have : (fun e : α × Bool => e.1) ∘ (fun e : α × Bool => if e.1 = a then (e.1, true) else e) = fun e => e.1 := by
          funext e
          simp only [Function.comp]
          split <;> rfl
        rw [this]
        exact ⟨.inl, fun h => h.elim id fun e => e ▸ hm⟩
      · rw [List.map_append, List.mem_append]
        simp
    rw [this, Bool.or_assoc]
    congr 1
    rw [Bool.eq_iff_iff, Bool.or_eq_true, decide_eq_true_iff, decide_eq_true_iff, decide_eq_true_iff, List.mem_cons]
theorem ways_at {k : Nat} {d : PyData} (h : [PyData.int 1, PyData.int (0 - 1)][k]? = some d) : ∃ w, isWay w ∧ d = .int w := by
  match k, h with
  | 0, h => cases h; exact ⟨1, .inl rfl, rfl⟩
  | 1, h => cases h; exact ⟨-1, .inr rfl, rfl⟩
/-! are_closed -/
theorem sc_are_closed : FnScope ["train", "other", "begun", "pairs", "pair", "one", "more", "known", "way", "behind", "shown"] ["train", "other", "begun", "pairs"] (defScope s_are_closed) := ⟨rfl, rfl, rfl, by decide +kernel, rfl, by decide +kernel, by decide +kernel⟩
theorem ok_are_closed {f f_pair_pushed f_is_pair : Addr} {fd : FuncData} (F : FnP K "are_closed" s_are_closed f fd) (hm : mg "are_closed" = some (.ref f)) (B : Frs mg) (h_pair_pushed : Has P w K mg base 5 "pair_pushed" ["train", "other", "pair", "way"] p_pair_pushed f_pair_pushed) (h_is_pair : Has P w K mg base 3 "is_pair" ["train", "other", "thing"] p_is_pair f_is_pair)  : Has P w K mg base 6 "are_closed" ["train", "other", "begun", "pairs"] p_are_closed f := by
  refine has_of F hm sc_are_closed (fun ds r h => by obtain ⟨T, U, s, ps, rfl, hT, hU, hs, hA, rfl⟩ := h; rfl) (fun _ _ _ _ _ _ us hl => match us, hl with | [_, _, _, _], _ => rfl) fun cdv A outer s H E ds r hr hp => ?_
  have hu := hr.u100
  obtain ⟨T, U, s, ps, rfl, hT, hU, hs, hA, rfl⟩ := hp
  apply ends_rt
  obtain ⟨hlt, hnd, hok, hl, hin, hcl⟩ := hA
  have hsz : sizeLine = 2 ^ 24 := rfl
  refine b_no (ptd_not (ptd_val (pd_allT [("pair", 4)] ps dPair rfl B.all sc_are_closed.nd (pid_list (pd_var 3 rfl)) (blkOk_by (N := ["train", "other", "begun", "pairs", "pair", "one", "more", "known", "way", "behind", "shown"]) (own := [("pair", 4)]) (sc := defScope s_are_closed) (by decide +kernel)) (fun x hx => ⟨_, fun _ _ _ _ _ => (pgw_name 4 sc_are_closed.nd), fun _ _ _ _ _ => PED.eq (pd_call h_is_pair (hr.mono (by decide)) (pad_cons (pd_var 0 rfl) (pad_cons (pd_var 1 rfl) (pad_cons (pd_var 4 rfl) pad_nil))) ⟨T, U, x, rfl, hT, hU, hok x hx, rfl⟩) rfl, rfl⟩) (small_size (by omega))))) rfl ?_
  refine b_no (ptd_w (w_orF (ptd_not (ptd_val (pd_allT [("one", 5), ("more", 6)] (ps.zip ps.tail) (fun p => .tuple [dPair p.1, dPair p.2]) rfl B.all sc_are_closed.nd (PID.eq (pid_zip B.zip (pd_var 3 rfl) (pd_slice (pd_var 3 rfl) (pod_some pd_int) pod_none .lst) .lst .lst) (zip_tailG dPair ps)) (blkOk_by (N := ["train", "other", "begun", "pairs", "pair", "one", "more", "known", "way", "behind", "shown"]) (own := [("one", 5), ("more", 6)]) (sc := defScope s_are_closed) (by decide +kernel)) (fun x hx => ⟨_, fun _ _ _ _ _ => (pgw_tup rfl (pgws_cons (pgw_name 5 sc_are_closed.nd) (pgws_cons (pgw_name 6 sc_are_closed.nd) pgws_nil))), fun _ _ _ _ _ => PED.eq (pd_cmp hu (pd_var 5 rfl) (pd_var 6 rfl) (.ltD (alike_pair _ _) (by intro z; cases z) (by simp [PyData.depth, PyData.depthAll, PySem.W.depth_ints]))) (congrArg PyData.bool (zip_lt hlt x hx)), rfl⟩) (small_size ?_)))) rfl (w_or1 (ptd_cmp hu (pd_var 2 rfl) (pd_var 3 rfl) (.ninL Ly.shp Ly.shp))))) (by rw [eqv_memP, decide_eq_true hin]; rfl) ?_
  · have := List.length_zip (l₁ := ps) (l₂ := ps.tail)
    omega
  refine pbd_ownK 7 sc_are_closed.nd (pk_pairs (kd := prKd) (dv := .bool) (es := ps.map fun p => (p, true)) rfl B.dict hu (PED.eq (pd_lcA [("pair", 4)] ps dPair (fun p => .tuple [dPair p, .bool true]) rfl sc_are_closed.nd (pid_list (pd_var 3 rfl)) (blkOk_by (N := ["train", "other", "begun", "pairs", "pair", "one", "more", "known", "way", "behind", "shown"]) (own := [("pair", 4)]) (sc := defScope s_are_closed) (by decide +kernel)) (fun x hx => ⟨_, fun _ _ _ _ _ => (pgw_name 4 sc_are_closed.nd), fun _ _ _ _ _ => PED.eq (pd_tup (ps := [_, _]) (pad_cons (pd_var 4 rfl) (pad_cons pd_bl pad_nil))) rfl, rfl⟩) (small_size (by omega))) (by rw [List.map_map]; rfl)) (by rw [List.length_map]; omega)) ?_
  have hget : ∀ x, (aGet (aPuts [] (ps.map fun p => (p, true))) x).isSome = decide (x ∈ ps) := fun x => by rw [aPuts_get]; simp [aGet]
  generalize aPuts [] (ps.map fun p => (p, true)) = M at hget
  refine pbd_for rfl (pid_list (pd_var 3 rfl)) (fun k δ => ∃ s1 s2 s3 s4 s5 s6 s7 : Sl, δ = [D (dTrain T), D (dTrain U), D (dPair s), D (.list (ps.map dPair)), s1, s2, s3, .dct (dEnt prKd .bool M), s4, s5, s6]) ?_ (fun k d δa hd hI => ?_) (fun δa hI => ?_)
  · exact ⟨.any, .any, .any, .any, .any, .any, .any, rfl⟩
  · obtain ⟨s1, s2, s3, s4, s5, s6, s7, rfl⟩ := hI
    rw [List.getElem?_map] at hd
    obtain ⟨x, hx, rfl⟩ := Option.map_eq_some_iff.mp hd
    have hxm := List.mem_of_getElem? hx
    refine ⟨_, .nx [D (dTrain T), D (dTrain U), D (dPair s), D (.list (ps.map dPair)), .any, .any, .any, .dct (dEnt prKd .bool M), .any, .any, .any], (pgd_name 4 sc_are_closed.nd), ?_, .any, .any, .any, .any, .any, .any, .any, rfl⟩
    refine pbd_for rfl (pid_list (pd_lst (ps := [_, _]) (pad_cons pd_int (pad_cons (pd_bin pd_int pd_int .subI) pad_nil)))) (fun k δ => ∃ s2 s3 s4 s5 s6 : Sl, δ = [D (dTrain T), D (dTrain U), D (dPair s), D (.list (ps.map dPair)), D (dPair x), s2, s3, .dct (dEnt prKd .bool M), s4, s5, s6]) ?_ (fun k d δa hd hI => ?_) (fun δa hI => ?_)
    · exact ⟨s2, s3, s4, s5, s6, rfl⟩
    · obtain ⟨s2, s3, s4, s5, s6, rfl⟩ := hI
      obtain ⟨wy, hw, rfl⟩ := ways_at hd
      obtain ⟨h1, h2⟩ := hcl x hxm wy hw
      refine ⟨_, .nx [D (dTrain T), D (dTrain U), D (dPair s), D (.list (ps.map dPair)), D (dPair x), s2, D (.int (prS2 U x wy)), .dct (dEnt prKd .bool M), D (.int wy), D (dPair (prNext T U x wy)), D (.int (prS1 T x wy))], (pgd_name 8 sc_are_closed.nd), ?_, _, _, _, _, _, rfl⟩
      refine pbd_asg (pd_call h_pair_pushed (hr.mono (by decide)) (pad_cons (pd_var 0 rfl) (pad_cons (pd_var 1 rfl) (pad_cons (pd_var 4 rfl) (pad_cons (pd_var 8 rfl) pad_nil)))) ⟨T, U, x, wy, rfl, hT, hU, hok x hxm, hw, rfl⟩) (pgd_tup rfl (pgds_cons (pgd_name 9 sc_are_closed.nd) (pgds_cons (pgd_name 10 sc_are_closed.nd) (pgds_cons (pgd_name 6 sc_are_closed.nd) pgds_nil)))) ?_
      exact b_no (ptd_w (w_orF (ptd_cmp hu (pd_var 10 rfl) (pd_var 6 rfl) (.ne Ly.shp Ly.shp)) (by rw [eqv_int, decide_eq_true h1]; rfl) (w_or1 (ptd_ninK (kd := prKd) (dv := .bool) (M := M) (k := prNext T U x wy) 7 rfl hu (pd_var 9 rfl))))) (by rw [hget, decide_eq_true h2]; rfl) (pbd_nx rfl)
    · obtain ⟨s2, s3, s4, s5, s6, rfl⟩ := hI
      exact pbd_wipe [4, 5, 6, 8, 9, 10] (pbd_nx rfl)
  · obtain ⟨s1, s2, s3, s4, s5, s6, s7, rfl⟩ := hI
    exact b_ret pd_bl rfl
def PaperOk (T U : List Part) (s : Pr) : Ans → Prop
  | .apart ws => ApartOk T U s ws
  | .alike ps => AlikeOk T U s ps
  | _ => False
def p_shows_alike (ds : List Sl) (r : PyData) : Prop := ∃ (T U : List Part) (s : Pr) (a : Ans), ds = [D (dTrain T), D (dStand s.1), D (dTrain U), D (dStand s.2), D (dAns a)] ∧ trainOk T ∧ trainOk U ∧ prOk T U s ∧ PaperOk T U s a ∧ r = .bool true
/-! shows_alike -/
theorem sc_shows_alike : FnScope ["train", "stand", "other", "there", "thing"] ["train", "stand", "other", "there", "thing"] (defScope s_shows_alike) := ⟨rfl, rfl, rfl, by decide +kernel, rfl, by decide +kernel, by decide +kernel⟩
theorem ok_shows_alike {f f_check_stand f_are_apart f_are_closed : Addr} {fd : FuncData} (F : FnP K "shows_alike" s_shows_alike f fd) (hm : mg "shows_alike" = some (.ref f)) (B : Frs mg) (h_check_stand : Has P w K mg base 5 "check_stand" ["train", "stand"] p_check_stand f_check_stand) (h_are_apart : Has P w K mg base 6 "are_apart" ["train", "stand", "other", "there", "pushes"] p_are_apart f_are_apart) (h_are_closed : Has P w K mg base 6 "are_closed" ["train", "other", "begun", "pairs"] p_are_closed f_are_closed)  : Has P w K mg base 7 "shows_alike" ["train", "stand", "other", "there", "thing"] p_shows_alike f := by
  refine has_of F hm sc_shows_alike (fun ds r h => by obtain ⟨T, U, s, a, rfl, hT, hU, hs, hA, rfl⟩ := h; rfl) (fun _ _ _ _ _ _ us hl => match us, hl with | [_, _, _, _, _], _ => rfl) fun cdv A outer s H E ds r hr hp => ?_
  have hu := hr.u100
  obtain ⟨T, U, s, a, rfl, hT, hU, hs, hA, rfl⟩ := hp
  apply ends_rt
  refine pbd_drop (pd_call h_check_stand (hr.mono (by decide)) (pad_cons (pd_var 0 rfl) (pad_cons (pd_var 1 rfl) pad_nil)) ⟨T, s.1, rfl, hT, hs.1, rfl⟩) ?_
  refine pbd_drop (pd_call h_check_stand (hr.mono (by decide)) (pad_cons (pd_var 2 rfl) (pad_cons (pd_var 3 rfl) pad_nil)) ⟨U, s.2, rfl, hU, hs.2, rfl⟩) ?_
  cases a with
  | apart ws =>
    refine b_no (ptd_w (w_orF (ptd_not (ptd_val (pd_isTuple B (pd_var 4 rfl)))) rfl (w_or1 (ptd_cmp hu (pd_len B.len (pd_var 4 rfl) .tup) pd_int (.ne Ly.shp Ly.shp))))) rfl ?_
    refine b_no (ptd_w (w_orF (ptd_not (ptd_val (pd_isStr B (pd_ix (pd_var 4 rfl) pd_int (.tup rfl))))) rfl (w_or1 (ptd_not (ptd_val (pd_isList B (pd_ix (pd_var 4 rfl) pd_int (.tup rfl)))))))) rfl ?_
    refine b_ifT (ptd_cmp hu (pd_ix (pd_var 4 rfl) pd_int (.tup rfl)) pd_str (.eq Ly.shp Ly.shp)) (by rw [eqv_str]; exact decide_eq_true rfl) ?_
    exact b_ret (pd_call h_are_apart (hr.mono (by decide)) (pad_cons (pd_var 0 rfl) (pad_cons (pd_var 1 rfl) (pad_cons (pd_var 2 rfl) (pad_cons (pd_var 3 rfl) (pad_cons (pd_ix (pd_var 4 rfl) pd_int (.tup rfl)) pad_nil))))) ⟨T, U, s, ws, rfl, hT, hU, hs, hA, rfl⟩) rfl
  | alike ps =>
    refine b_no (ptd_w (w_orF (ptd_not (ptd_val (pd_isTuple B (pd_var 4 rfl)))) rfl (w_or1 (ptd_cmp hu (pd_len B.len (pd_var 4 rfl) .tup) pd_int (.ne Ly.shp Ly.shp))))) rfl ?_
    refine b_no (ptd_w (w_orF (ptd_not (ptd_val (pd_isStr B (pd_ix (pd_var 4 rfl) pd_int (.tup rfl))))) rfl (w_or1 (ptd_not (ptd_val (pd_isList B (pd_ix (pd_var 4 rfl) pd_int (.tup rfl)))))))) rfl ?_
    refine b_no (ptd_cmp hu (pd_ix (pd_var 4 rfl) pd_int (.tup rfl)) pd_str (.eq Ly.shp Ly.shp)) (by rw [eqv_str]; decide +kernel) ?_
    exact b_ret (e_andT (pd_cmp hu (pd_ix (pd_var 4 rfl) pd_int (.tup rfl)) pd_str (.eq Ly.shp Ly.shp)) (by rw [eqv_str]; exact decide_eq_true rfl) (e_one (PED.eq (pd_call h_are_closed (hr.mono (by decide)) (pad_cons (pd_var 0 rfl) (pad_cons (pd_var 2 rfl) (pad_cons (pd_tup (ps := [_, _]) (pad_cons (pd_var 1 rfl) (pad_cons (pd_var 3 rfl) pad_nil))) (pad_cons (pd_ix (pd_var 4 rfl) pd_int (.tup rfl)) pad_nil)))) ⟨T, U, s, ps, rfl, hT, hU, hs, hA, rfl⟩) rfl))) rfl
  | never ss => exact hA.elim
  | row b p n => exact hA.elim
  | wheel z m b => exact hA.elim
  | none_ j k => exact hA.elim
end
end Ct

-- W8
set_option Elab.async false
set_option linter.all false
set_option maxRecDepth 100000
set_option maxHeartbeats 1000000
/-! W8: shows.py: the search over pairs (printed by gen2.py from W8.src). -/
namespace Ct
open PySem PySem.Spec L2
def dvW (p : List Int) : PyData := .list (p.map .int)
theorem alike_pairs (l : List Pr) : PySem.W.AllAlike (l.map dPair) := .of fun a b => alike_pair a b
theorem sortable_pairs {l : List Pr} : PySem.W.Sortable (l.map dPair) := .inl fun d hd => by
  obtain ⟨s, hs, rfl⟩ := List.mem_map.mp hd
  exact ⟨_, _, rfl⟩
theorem depth_pairs {l : List Pr} : ∀ d ∈ l.map dPair, d.depth ≤ 64 := fun d hd => by
  obtain ⟨s, _, rfl⟩ := List.mem_map.mp hd
  simp [PyData.depth, PyData.depthAll, PySem.W.depth_ints]
def outOf (T U : List Part) (s : Pr) (i : Nat) : Sum (List Int) Cp → Out
  | .inl p => .rt (.tuple [.str "apart", .list (p.map .int)]) []
  | .inr M => .nx [D (dTrain T), D (dStand s.1), D (dTrain U), D (dStand s.2), D (dPair s), .dct (dEnt prKd dvW M), .lst ((M.map (·.1)).map dPair), D (.int ((i + 1 : Nat) : Int)), .any, .any, .any, .any, .any]
theorem ways_drop {T U : List Part} {p : Pr} {k : Nat} {d : PyData} (h : [PyData.int 1, PyData.int (0 - 1)][k]? = some d) : ∃ w, isWay w ∧ d = .int w ∧ (prEnds T U p).drop k = prEnd T U p w :: (prEnds T U p).drop (k + 1) := by
  match k, h with
  | 0, h => cases h; exact ⟨1, .inl rfl, rfl, rfl⟩
  | 1, h => cases h; exact ⟨-1, .inr rfl, rfl, rfl⟩
theorem inner_srch {T U : List Part} {s here : Pr} {ph : List Int} (hT : ∀ p ∈ T, p.ok) (hU : ∀ p ∈ U, p.ok) : ∀ (es : List (Int × Pr × Bool)) (M M' : Cp), (∀ x ∈ es, x ∈ prEnds T U here) → SrchP T U s M → aGet M here = some ph → inner here es M = .inr M' → SrchP T U s M'
  | [], M, M', _, g, _, h => by cases h; exact g
  | (w, b, true) :: es, M, M', _, g, _, h => by cases h
  | (w, b, false) :: es, M, M', hs, g, hh, h => by
    have hin := hs _ List.mem_cons_self
    obtain ⟨h1, h2⟩ := prEnds_mem hin
    unfold prEnd at h2
    simp only [Prod.mk.injEq, true_and] at h2
    obtain ⟨rfl, h3⟩ := h2
    have hc : prS1 T here w = prS2 U here w := Decidable.not_not.mp (of_decide_eq_false h3.symm)
    obtain ⟨N0, e0⟩ := addE_pre (here := here) (M := M) (st := w) (b := prNext T U here w)
    exact inner_srch hT hU es (addE here M w (prNext T U here w)) M' (fun x hx => hs x (List.mem_cons_of_mem _ hx)) (g.add hT hU hh h1 hc) (by rw [e0]; exact aGet_app hh) h
section
variable {P : Program} {w : World} {K : PySem.W.Frag} {mg : Str → Option Value} {base : Heap}
def p_trains_alike (ds : List Sl) (r : PyData) : Prop := ∃ (T U : List Part) (s : Pr), ds = [D (dTrain T), D (dStand s.1), D (dTrain U), D (dStand s.2)] ∧ trainOk T ∧ trainOk U ∧ prOk T U s ∧ pfew T U ∧ r = dAns (alikeA T U s)
/-! trains_alike -/
theorem sc_trains_alike : FnScope ["train", "stand", "other", "there", "begun", "came", "row", "at", "pair", "way", "behind", "shown", "more"] ["train", "stand", "other", "there"] (defScope s_trains_alike) := ⟨rfl, rfl, rfl, by decide +kernel, rfl, by decide +kernel, by decide +kernel⟩
theorem ok_trains_alike {f f_check_stand f_pair_pushed : Addr} {fd : FuncData} (F : FnP K "trains_alike" s_trains_alike f fd) (hm : mg "trains_alike" = some (.ref f)) (B : Frs mg) (h_check_stand : Has P w K mg base 5 "check_stand" ["train", "stand"] p_check_stand f_check_stand) (h_pair_pushed : Has P w K mg base 5 "pair_pushed" ["train", "other", "pair", "way"] p_pair_pushed f_pair_pushed)  : Has P w K mg base 6 "trains_alike" ["train", "stand", "other", "there"] p_trains_alike f := by
  refine has_of F hm sc_trains_alike (fun ds r h => by obtain ⟨T, U, s, rfl, hT, hU, hs, hf, rfl⟩ := h; rfl) (fun _ _ _ _ _ _ us hl => match us, hl with | [_, _, _, _], _ => rfl) fun cdv A outer s H E ds r hr hp => ?_
  have hu := hr.u100
  obtain ⟨T, U, s, rfl, hT, hU, hs, hf, rfl⟩ := hp
  apply ends_rt
  have hsz : sizeLine = 2 ^ 24 := rfl
  refine pbd_drop (pd_call h_check_stand (hr.mono (by decide)) (pad_cons (pd_var 0 rfl) (pad_cons (pd_var 1 rfl) pad_nil)) ⟨T, s.1, rfl, hT, hs.1, rfl⟩) ?_
  refine pbd_drop (pd_call h_check_stand (hr.mono (by decide)) (pad_cons (pd_var 2 rfl) (pad_cons (pd_var 3 rfl) pad_nil)) ⟨U, s.2, rfl, hU, hs.2, rfl⟩) ?_
  refine pbd_set 4 sc_trains_alike.nd (s := D (dPair s)) (pd_tup (ps := [_, _]) (pad_cons (pd_var 1 rfl) (pad_cons (pd_var 3 rfl) pad_nil))) ?_
  refine pbd_ownK 5 sc_trains_alike.nd (pk_one (kd := prKd) (dv := dvW) (k := s) (v := []) hu (pd_var 4 rfl) (pd_lst (ps := []) pad_nil)) ?_
  refine pbd_own 6 sc_trains_alike.nd (ds := [dPair s]) (pn_lst (ps := [_]) (pad_cons (pd_var 4 rfl) pad_nil)) ?_
  refine pbd_set 7 sc_trains_alike.nd pd_int ?_
  refine pbd_while (fun m δ => ∃ (i : Nat) (M : Cp) (s1 s2 s3 s4 s5 : Sl), m + i = 3601 ∧ SrchP T U s M ∧ bfs (prEnds T U) (3601 - i) i M = aliveR T U s ∧
      δ = [D (dTrain T), D (dStand s.1), D (dTrain U), D (dStand s.2), D (dPair s), .dct (dEnt prKd dvW M), .lst ((M.map (·.1)).map dPair), D (.int i), s1, s2, s3, s4, s5]) (m0 := 3601) ?_ (fun m δa hI => ?_)
  · exact ⟨0, [(s, [])], .any, .any, .any, .any, .any, rfl, .start hs, rfl, rfl⟩
  · obtain ⟨i, M, s1, s2, s3, s4, s5, hm, hS, hB, rfl⟩ := hI
    have hM := hS.len hf
    refine ⟨_, (ptd_cmp hu (pd_var 7 rfl) (pd_lenO 6 B.len rfl) .lt), fun hk => ?_, fun hk => ?_⟩
    · have hi : i < M.length := by
        have := of_decide_eq_true hk
        simp only [List.length_map] at this
        omega
      obtain ⟨⟨here, ph⟩, e1⟩ : ∃ e, M[i]? = some e := ⟨M[i], List.getElem?_eq_getElem hi⟩
      have hgh := hS.good.at e1
      have hhs : prOk T U here := hS.good.ok _ (List.mem_of_getElem? e1)
      have e2 : ((M.map (·.1)).map dPair)[i]? = some (dPair here) := by rw [List.getElem?_map, List.getElem?_map, e1]; rfl
      obtain ⟨f, ef⟩ : ∃ f, 3601 - i = f + 1 := ⟨3600 - i, by omega⟩
      rw [ef, bfs, e1] at hB
      dsimp only at hB
      refine ⟨outOf T U s i (inner here (prEnds T U here) M), ?_, ?_⟩
      · refine pbd_set 8 sc_trains_alike.nd (s := D (dPair here)) (pd_ixO 6 rfl (pd_var 7 rfl) (atI_nat e2)) ?_
        refine pbd_addI 7 sc_trains_alike.nd rfl pd_int ?_
        refine pbd_for rfl (pid_list (pd_lst (ps := [_, _]) (pad_cons pd_int (pad_cons (pd_bin pd_int pd_int .subI) pad_nil)))) (fun k δ => ∃ (Mk : Cp) (s2 s3 s4 s5 : Sl), SrchP T U s Mk ∧ aGet Mk here = some ph ∧ inner here ((prEnds T U here).drop k) Mk = inner here (prEnds T U here) M ∧
          δ = [D (dTrain T), D (dStand s.1), D (dTrain U), D (dStand s.2), D (dPair s), .dct (dEnt prKd dvW Mk), .lst ((Mk.map (·.1)).map dPair), D (.int ((i : Int) + 1)), D (dPair here), s2, s3, s4, s5]) ?_ (fun k d δa hd hI => ?_) (fun δa hI => ?_)
        · exact ⟨M, s2, s3, s4, s5, hS, hgh, rfl, rfl⟩
        · obtain ⟨Mk, s2, s3, s4, s5, q1, q2, q3, rfl⟩ := hI
          obtain ⟨wy, hw, rfl, hdr⟩ := ways_drop (T := T) (U := U) (p := here) hd
          have hq1 := q1.len hf
          have hph := q1.short _ (aGet_mem q2)
          dsimp only at hph
          rw [hdr] at q3
          by_cases hc : prS1 T here wy = prS2 U here wy
          · have hdc : decide (prS1 T here wy ≠ prS2 U here wy) = false := decide_eq_false fun q => q hc
            unfold prEnd at q3
            rw [hdc, inner] at q3
            refine ⟨_, .nx [D (dTrain T), D (dStand s.1), D (dTrain U), D (dStand s.2), D (dPair s), .dct (dEnt prKd dvW (addE here Mk wy (prNext T U here wy))), .lst (((addE here Mk wy (prNext T U here wy)).map (·.1)).map dPair), D (.int ((i : Int) + 1)), D (dPair here), D (.int wy), D (dPair (prNext T U here wy)), D (.int (prS1 T here wy)), D (.int (prS2 U here wy))], (pgd_name 9 sc_trains_alike.nd), ?_, addE here Mk wy (prNext T U here wy), D (.int wy), D (dPair (prNext T U here wy)), D (.int (prS1 T here wy)), D (.int (prS2 U here wy)), q1.add hT.2.2 hU.2.2 q2 hw hc, ?_, q3, rfl⟩
            · refine pbd_asg (pd_call h_pair_pushed (hr.mono (by decide)) (pad_cons (pd_var 0 rfl) (pad_cons (pd_var 2 rfl) (pad_cons (pd_var 8 rfl) (pad_cons (pd_var 9 rfl) pad_nil)))) ⟨T, U, here, wy, rfl, hT, hU, hhs, hw, rfl⟩) (pgd_tup rfl (pgds_cons (pgd_name 10 sc_trains_alike.nd) (pgds_cons (pgd_name 11 sc_trains_alike.nd) (pgds_cons (pgd_name 12 sc_trains_alike.nd) pgds_nil)))) ?_
              refine b_no (ptd_cmp hu (pd_var 11 rfl) (pd_var 12 rfl) (.ne Ly.shp Ly.shp)) (by rw [eqv_int, decide_eq_true hc]; rfl) ?_
              cases hb : aGet Mk (prNext T U here wy) with
              | some pb =>
                have e5 : addE here Mk wy (prNext T U here wy) = Mk := by unfold addE; rw [hb]; rfl
                rw [e5]
                exact b_no (ptd_ninK (kd := prKd) (dv := dvW) (M := Mk) (k := prNext T U here wy) 5 rfl hu (pd_var 10 rfl)) (by rw [hb]; rfl) pbd_end
              | none =>
                have e5 : addE here Mk wy (prNext T U here wy) = Mk ++ [(prNext T U here wy, ph ++ [wy])] := by
                  unfold addE pathOf
                  rw [hb, q2]; rfl
                rw [e5]
                refine b_ifT (ptd_ninK (kd := prKd) (dv := dvW) (M := Mk) (k := prNext T U here wy) 5 rfl hu (pd_var 10 rfl)) (by rw [hb]; rfl) ?_
                refine pbd_putK (kd := prKd) (dv := dvW) (M := Mk) (k := prNext T U here wy) (v := ph ++ [wy]) 5 (PED.eq (pd_bin (pd_getK (kd := prKd) (dv := dvW) (M := Mk) (k := here) 5 rfl hu (pd_var 8 rfl) q2) (pd_lst (ps := [_]) (pad_cons (pd_var 9 rfl) pad_nil)) (.addL (by rw [List.length_map]; show ph.length + 1 ≤ sizeLine; omega))) (by unfold dvW; rw [List.map_append]; rfl)) rfl hu (pd_var 10 rfl) (by omega) ?_
                rw [aPut_new hb]
                refine pbd_append (d := dPair (prNext T U here wy)) 6 rfl (pd_var 10 rfl) rfl (by rw [List.length_map, List.length_map]; omega) ?_
                refine pbd_pop (pbd_nx ?_)
                rw [List.map_append, List.map_append]
                rfl
            · obtain ⟨N0, e0⟩ := addE_pre (here := here) (M := Mk) (st := wy) (b := prNext T U here wy)
              rw [e0]; exact aGet_app q2
          · have hdc : decide (prS1 T here wy ≠ prS2 U here wy) = true := decide_eq_true hc
            unfold prEnd at q3
            rw [hdc, inner] at q3
            have ep : pathOf Mk here = ph := by unfold pathOf; rw [q2]; rfl
            refine ⟨_, .rt (.tuple [.str "apart", dvW (ph ++ [wy])]) [], (pgd_name 9 sc_trains_alike.nd), ?_, ?_⟩
            · refine pbd_asg (pd_call h_pair_pushed (hr.mono (by decide)) (pad_cons (pd_var 0 rfl) (pad_cons (pd_var 2 rfl) (pad_cons (pd_var 8 rfl) (pad_cons (pd_var 9 rfl) pad_nil)))) ⟨T, U, here, wy, rfl, hT, hU, hhs, hw, rfl⟩) (pgd_tup rfl (pgds_cons (pgd_name 10 sc_trains_alike.nd) (pgds_cons (pgd_name 11 sc_trains_alike.nd) (pgds_cons (pgd_name 12 sc_trains_alike.nd) pgds_nil)))) ?_
              refine b_ifT (ptd_cmp hu (pd_var 11 rfl) (pd_var 12 rfl) (.ne Ly.shp Ly.shp)) (by rw [eqv_int, decide_eq_false hc]; rfl) ?_
              exact b_ret (pd_tup (ps := [_, _]) (pad_cons pd_str (pad_cons (PED.eq (pd_bin (pd_getK (kd := prKd) (dv := dvW) (M := Mk) (k := here) 5 rfl hu (pd_var 8 rfl) q2) (pd_lst (ps := [_]) (pad_cons (pd_var 9 rfl) pad_nil)) (.addL (by rw [List.length_map]; show ph.length + 1 ≤ sizeLine; omega))) (by unfold dvW; rw [List.map_append]; rfl : _ = dvW (ph ++ [wy]))) pad_nil))) rfl
            · rw [← q3, ep]
              rfl
        · obtain ⟨Mk, s2, s3, s4, s5, q1, q2, q3, rfl⟩ := hI
          have q3' : inner here [] Mk = inner here (prEnds T U here) M := q3
          rw [inner] at q3'
          rw [← q3']
          exact pbd_wipe [8, 9, 10, 11, 12] (pbd_nx rfl)
      · cases hin : inner here (prEnds T U here) M with
        | inl p =>
          rw [hin] at hB
          show Out.rt _ [] = Out.rt _ _
          have hr : dAns (alikeA T U s) = .tuple [.str "apart", .list (p.map .int)] := by
            unfold alikeA
            rw [← hB]
            rfl
          rw [hr]
        | inr M' =>
          rw [hin] at hB
          dsimp only at hB
          refine ⟨m - 1, by omega, i + 1, M', .any, .any, .any, .any, .any, by omega, ?_, by rw [show 3601 - (i + 1) = f by omega]; exact hB, rfl⟩
          have key := inner_srch hT.2.2 hU.2.2 (prEnds T U here) M M' (fun x hx => hx) hS hgh hin
          exact key
    · have hi : M.length ≤ i := by
        have := of_decide_eq_false hk
        simp only [List.length_map] at this
        omega
      have hM' : aliveR T U s = .inr M := by
        rw [← hB]
        cases 3601 - i with
        | zero => rfl
        | succ f => rw [bfs, List.getElem?_eq_none hi]
      refine b_ret (pd_tup (ps := [_, _]) (pad_cons pd_str (pad_cons (pd_sortedO 6 rfl B.sorted rfl hu (alike_pairs _) sortable_pairs depth_pairs) pad_nil))) ?_
      unfold alikeA
      rw [hM', sortP_eq]
      rfl
end
end Ct

-- W9
set_option Elab.async false
set_option linter.all false
set_option maxRecDepth 100000
set_option maxHeartbeats 1000000
/-! W9: worn.py (printed by gen2.py from W9.src). -/
namespace Ct
open PySem PySem.Spec L2
theorem numbered_at {ds : List PyData} {k : Nat} {d : PyData} (h : (numbered ds)[k]? = some d) : ∃ x, ds[k]? = some x ∧ d = .tuple [.int ((k : Nat) : Int), x] := by
  unfold numbered at h
  rw [List.getElem?_mapIdx] at h
  obtain ⟨x, hx, rfl⟩ := Option.map_eq_some_iff.mp h
  exact ⟨x, hx, rfl⟩
theorem cutD_take {xs : List PyData} {k : Nat} (h : k ≤ xs.length) : cutD xs none (some (k : Int)) = xs.take k := by
  unfold cutD
  rw [HT.sIx_none, HT.sIx_nat, Nat.min_eq_left h]
  simp
theorem cutD_drop {xs : List PyData} {k : Nat} (h : k ≤ xs.length) : cutD xs (some (k : Int)) none = xs.drop k := by
  unfold cutD
  rw [HT.sIx_none, HT.sIx_nat, Nat.min_eq_left h]
  rw [List.take_of_length_le (by rw [List.length_drop]; omega)]
section
variable {P : Program} {w : World} {K : PySem.W.Frag} {mg : Str → Option Value} {base : Heap}
def p_wears (ds : List Sl) (r : PyData) : Prop := ∃ T, ds = [D (dTrain T)] ∧ trainOk T ∧ r = .list ((wearsF T).map dWear)
/-! wears -/
theorem sc_wears : FnScope ["train", "told", "i", "part", "mark"] ["train"] (defScope s_wears) := ⟨rfl, rfl, rfl, by decide +kernel, rfl, by decide +kernel, by decide +kernel⟩
theorem ok_wears {f f_check_train : Addr} {fd : FuncData} (F : FnP K "wears" s_wears f fd) (hm : mg "wears" = some (.ref f)) (B : Frs mg) (h_check_train : Has P w K mg base 4 "check_train" ["train"] p_check_train f_check_train)  : Has P w K mg base 5 "wears" ["train"] p_wears f := by
  refine has_of F hm sc_wears (fun ds r h => by obtain ⟨T, rfl, hT, rfl⟩ := h; rfl) (fun _ _ _ _ _ _ us hl => match us, hl with | [_], _ => rfl) fun cdv A outer s H E ds r hr hp => ?_
  have hu := hr.u100
  obtain ⟨T, rfl, hT, rfl⟩ := hp
  apply ends_rt
  have hsz : sizeLine = 2 ^ 24 := rfl
  have hl2 := hT.2.1
  refine pbd_drop (pd_call h_check_train (hr.mono (by decide)) (pad_cons (pd_var 0 rfl) pad_nil) ⟨T, rfl, hT, rfl⟩) ?_
  refine pbd_set 1 sc_wears.nd (s := D (.list ((none :: wFrom 0 (T.take 0)).map dWear))) (pd_lst (ps := [_]) (pad_cons pd_non pad_nil)) ?_
  refine pbd_for rfl (pid_enum B.enumerate (pd_var 0 rfl)) (fun k δ => ∃ s1 s2 s3 : Sl, δ = [D (dTrain T), D (.list ((none :: wFrom 0 (T.take k)).map dWear)), s1, s2, s3]) ?_ (fun k d δa hd hI => ?_) (fun δa hI => ?_)
  · exact ⟨.any, .any, .any, rfl⟩
  · obtain ⟨s1, s2, s3, rfl⟩ := hI
    obtain ⟨x, hx, rfl⟩ := numbered_at hd
    rw [List.getElem?_map] at hx
    obtain ⟨p, hp, rfl⟩ := Option.map_eq_some_iff.mp hx
    have hpo := hT.2.2 p (List.mem_of_getElem? hp)
    have hkl := (List.getElem?_eq_some_iff.mp hp).1
    have e1 : wFrom 0 (T.take (k + 1)) = wFrom 0 (T.take k) ++ partWears k p := by
      rw [List.take_add_one, hp, wFrom_app, List.length_take, Nat.min_eq_left (by omega), Nat.zero_add]
      show _ ++ (partWears k p ++ []) = _
      rw [List.append_nil]
    have hlen := wFrom_len (T := T.take k) 0 fun q hq => hT.2.2 q (List.mem_of_mem_take hq)
    rw [List.length_take] at hlen
    refine ⟨_, .nx [D (dTrain T), D (.list ((none :: wFrom 0 (T.take (k + 1))).map dWear)), .any, .any, .any], (pgd_tup rfl (pgds_cons (pgd_name 2 sc_wears.nd) (pgds_cons (pgd_name 3 sc_wears.nd) pgds_nil))), ?_, .any, .any, .any, rfl⟩
    rw [e1]
    cases p with
    | wheel z ms =>
      have hml := hpo.2.2.len (by have := hpo.1; omega)
      have hz := hpo.2.1
      have hms : ms.length < sizeLine := by omega
      have hsum : ((none :: wFrom 0 (T.take k)).map dWear).length + (ms.map fun m => dWear (some ((k : Int), m))).length ≤ sizeLine := by
        simp only [List.length_map, List.length_cons]
        omega
      refine b_ifT (ptd_cmp hu (pd_ix (pd_var 3 rfl) pd_int (.tup rfl)) pd_str (.eq Ly.shp Ly.shp)) (by rw [eqv_str]; exact decide_eq_true rfl) ?_
      refine pbd_set 1 sc_wears.nd (pd_bin (pd_var 1 rfl) (pd_lcA [("mark", 4)] ms .int (fun m => dWear (some ((k : Int), m))) rfl sc_wears.nd (pid_tup (pd_ix (pd_var 3 rfl) pd_int (.tup rfl))) (blkOk_by (N := ["train", "told", "i", "part", "mark"]) (own := [("mark", 4)]) (sc := defScope s_wears) (by decide +kernel)) (fun x hx => ⟨_, fun _ _ _ _ _ => (pgw_name 4 sc_wears.nd), fun _ _ _ _ _ => PED.eq (pd_tup (ps := [_, _]) (pad_cons (pd_var 2 rfl) (pad_cons (pd_var 4 rfl) pad_nil))) rfl, rfl⟩) hms) (.addL hsum)) ?_
      refine pbd_pop (pbd_wipe [2, 3, 4] (pbd_nx ?_))
      show [_, D (.list (_ ++ _)), _, _, _] = _
      rw [← List.cons_append, List.map_append]
      show _ = [_, D (.list (_ ++ (ms.map fun m => some ((k : Int), m)).map dWear)), _, _, _]
      rw [List.map_map]
      rfl
    | click =>
      refine b_no (ptd_cmp hu (pd_ix (pd_var 3 rfl) pd_int (.tup rfl)) pd_str (.eq Ly.shp Ly.shp)) (by rw [eqv_str]; decide +kernel) ?_
      refine pbd_wipe [2, 3, 4] (pbd_nx ?_)
      rw [show partWears k .click = [] from rfl, List.append_nil]
      rfl
    | rocker =>
      refine b_no (ptd_cmp hu (pd_ix (pd_var 3 rfl) pd_int (.tup rfl)) pd_str (.eq Ly.shp Ly.shp)) (by rw [eqv_str]; decide +kernel) ?_
      refine pbd_wipe [2, 3, 4] (pbd_nx ?_)
      rw [show partWears k .rocker = [] from rfl, List.append_nil]
      rfl
    | spring z =>
      refine b_no (ptd_cmp hu (pd_ix (pd_var 3 rfl) pd_int (.tup rfl)) pd_str (.eq Ly.shp Ly.shp)) (by rw [eqv_str]; decide +kernel) ?_
      refine pbd_wipe [2, 3, 4] (pbd_nx ?_)
      rw [show partWears k (.spring z) = [] from rfl, List.append_nil]
      rfl
  · obtain ⟨s1, s2, s3, rfl⟩ := hI
    have : (numbered (T.map dPart)).length = T.length := by unfold numbered; rw [List.length_mapIdx, List.length_map]
    rw [this, List.take_length]
    exact b_ret (pd_var 1 rfl) rfl
def p_worn (ds : List Sl) (r : PyData) : Prop := ∃ T wr, ds = [D (dTrain T), D (dWear wr)] ∧ trainOk T ∧ WearOk T wr ∧ r = dTrain (wornF T wr)
/-! worn -/
theorem sc_worn : FnScope ["train", "wear", "i", "mark", "part", "left", "one"] ["train", "wear"] (defScope s_worn) := ⟨rfl, rfl, rfl, by decide +kernel, rfl, by decide +kernel, by decide +kernel⟩
theorem ok_worn {f f_left f_check_train : Addr} {fd : FuncData} (F : FnP K "worn" s_worn f fd) (hm : mg "worn" = some (.ref f)) (B : Frs mg) (h_left : Has P w K mg base 6 "left" ["train", "stand", "row"] p_left f_left) (h_check_train : Has P w K mg base 4 "check_train" ["train"] p_check_train f_check_train)  : Has P w K mg base 7 "worn" ["train", "wear"] p_worn f := by
  refine has_of F hm sc_worn (fun ds r h => by obtain ⟨T, wr, rfl, hT, hwr, rfl⟩ := h; rfl) (fun _ _ _ _ _ _ us hl => match us, hl with | [_, _], _ => rfl) fun cdv A outer s H E ds r hr hp => ?_
  have hu := hr.u100
  obtain ⟨T, wr, rfl, hT, hwr, rfl⟩ := hp
  apply ends_rt
  have hsz : sizeLine = 2 ^ 24 := rfl
  have hl2 := hT.2.1
  refine pbd_drop (pd_call h_check_train (hr.mono (by decide)) (pad_cons (pd_var 0 rfl) pad_nil) ⟨T, rfl, hT, rfl⟩) ?_
  rcases hwr with rfl | ⟨i, z, ms, m, rfl, h⟩
  · refine b_ifT (ptd_cmp hu (pd_var 1 rfl) pd_non .isN) rfl ?_
    exact b_ret (pd_list B.list (pd_var 0 rfl) .lst) rfl
  · rw [wornF_some h]
    have hi := (List.getElem?_eq_some_iff.mp h).1
    have hpo := hT.2.2 _ (List.mem_of_getElem? h)
    have hml := hpo.2.2.len (by have := hpo.1; omega)
    have hz := hpo.2.1
    have hms : ms.length < sizeLine := by omega
    refine b_no (ptd_cmp hu (pd_var 1 rfl) pd_non .isN) rfl ?_
    refine pbd_asg (pd_var 1 rfl) (pgd_tup rfl (pgds_cons (pgd_name 2 sc_worn.nd) (pgds_cons (pgd_name 3 sc_worn.nd) pgds_nil))) ?_
    refine pbd_set 4 sc_worn.nd (s := D (dPart (.wheel z ms))) (pd_ix (pd_var 0 rfl) (pd_var 2 rfl) (.lst (atI_map h))) ?_
    refine pbd_set 5 sc_worn.nd (s := D (.tuple ((ms.filter fun n => decide (n ≠ m)).map .int))) (pd_tuple B.tuple (pd_lcM [("one", 6)] ms .int .int (fun n => decide (n ≠ m)) rfl sc_worn.nd (pid_tup (pd_ix (pd_var 4 rfl) pd_int (.tup rfl))) (blkOk_by (N := ["train", "wear", "i", "mark", "part", "left", "one"]) (own := [("one", 6)]) (sc := defScope s_worn) (by decide +kernel)) (fun x hx => ⟨_, fun _ _ _ _ _ => (pgw_name 6 sc_worn.nd), fun _ _ _ _ _ => ptsd_one (PTD.eq (ptd_cmp hu (pd_var 6 rfl) (pd_var 3 rfl) (.ne Ly.shp Ly.shp)) (by rw [eqv_int]; simp)), fun hx2 _ _ _ _ _ => PED.eq (pd_var 6 rfl) rfl, rfl⟩) hms)) ?_
    have e1 : (i : Int) + 1 = ((i + 1 : Nat) : Int) := rfl
    refine b_ret (pd_bin (pd_bin (pd_slice (pd_var 0 rfl) pod_none (pod_some (pd_var 2 rfl)) .lst) (pd_lst (ps := [_]) (pad_cons (pd_tup (ps := [_, _, _]) (pad_cons pd_str (pad_cons (pd_ix (pd_var 4 rfl) pd_int (.tup rfl)) (pad_cons (pd_var 5 rfl) pad_nil)))) pad_nil)) (.addL ?_)) (pd_slice (pd_var 0 rfl) (pod_some (pd_bin (pd_var 2 rfl) pd_int .addI)) pod_none .lst) (.addL ?_)) ?_
    · rw [cutD_take (by rw [List.length_map]; omega)]
      simp only [List.length_take, List.length_map, List.length_cons, List.length_nil]
      omega
    · rw [cutD_take (by rw [List.length_map]; omega), e1, cutD_drop (by rw [List.length_map]; omega)]
      simp only [List.length_append, List.length_take, List.length_drop, List.length_map, List.length_cons, List.length_nil]
      omega
    · rw [cutD_take (by rw [List.length_map]; omega), e1, cutD_drop (by rw [List.length_map]; omega)]
      show PyData.list _ = PyData.list (List.map dPart (_ ++ _ ++ _))
      rw [List.map_append, List.map_append, List.map_take, List.map_drop]
      rfl
def p_is_show_worn (ds : List Sl) (r : PyData) : Prop := ∃ (T : List Part) (x : Sn), ds = [D (dTrain T), D (dSn x)] ∧ trainOk T ∧ snOk T.length x ∧ r = .bool true
/-! is_show_worn -/
theorem sc_is_show_worn : FnScope ["train", "thing"] ["train", "thing"] (defScope s_is_show_worn) := ⟨rfl, rfl, rfl, by decide +kernel, rfl, by decide +kernel, by decide +kernel⟩
theorem ok_is_show_worn {f f_is_whole f_is_push : Addr} {fd : FuncData} (F : FnP K "is_show" s_is_show_worn f fd) (hm : mg "is_show_worn" = some (.ref f)) (B : Frs mg) (h_is_whole : Has P w K mg base 1 "is_whole" ["thing"] p_is_whole f_is_whole) (h_is_push : Has P w K mg base 2 "is_push" ["keys", "thing"] p_is_push f_is_push)  : Has P w K mg base 3 "is_show_worn" ["train", "thing"] p_is_show_worn f := by
  refine has_of F hm sc_is_show_worn (fun ds r h => by obtain ⟨T, x, rfl, hT, hx, rfl⟩ := h; rfl) (fun _ _ _ _ _ _ us hl => match us, hl with | [_, _], _ => rfl) fun cdv A outer s H E ds r hr hp => ?_
  have hu := hr.u100
  obtain ⟨T, x, rfl, hT, hx, rfl⟩ := hp
  apply ends_rt
  obtain ⟨i, wy, v⟩ := x
  obtain ⟨h1, h2, h3, h4⟩ := hx
  dsimp only at h1 h2 h3 h4
  have hl2 := hT.2.1
  refine b_no (ptd_w (w_orF (ptd_not (ptd_val (pd_isTuple B (pd_var 1 rfl)))) rfl (w_orF (ptd_cmp hu (pd_len B.len (pd_var 1 rfl) .tup) pd_int (.ne Ly.shp Ly.shp)) rfl (w_or1 (ptd_not (ptd_val (pd_call h_is_push (hr.mono (by decide)) (pad_cons (pd_listRange rfl B.list B.range (pd_len B.len (pd_var 0 rfl) .lst) (by omega) (by rw [List.length_map]; omega)) (pad_cons (pd_slice (pd_var 1 rfl) pod_none (pod_some pd_int) .tup) pad_nil)) ⟨(List.range T.length).map fun i => ((i : Nat) : Int), i, wy, ?_, ?_, h3, rfl⟩))))))) rfl ?_
  · rw [List.length_map, Int.toNat_natCast]
    show _ = [D (.list (List.map PyData.int (List.map _ _))), _]
    rw [List.map_map]
    rfl
  · exact List.mem_map.mpr ⟨i.toNat, List.mem_range.mpr (by omega), by omega⟩
  refine b_ret (e_andT (pd_call h_is_whole (hr.mono (by decide)) (pad_cons (pd_ix (pd_var 1 rfl) pd_int (.tup rfl)) pad_nil) ⟨v, rfl, rfl⟩) rfl (e_one (PED.eq (pd_cmp hu (pd_ix (pd_var 1 rfl) pd_int (.tup rfl)) (pd_lst (ps := [_, _, _]) (pad_cons pd_int (pad_cons (pd_bin pd_int pd_int .subI) (pad_cons pd_int pad_nil)))) (.inL Ly.shp Ly.shp)) ?_))) rfl
  rcases h4 with rfl | rfl | rfl <;> rfl
def p_shows_just (ds : List Sl) (r : PyData) : Prop := ∃ (T : List Part) (s : List Int) (l : List Sn), ds = [D (dTrain T), D (dStand s), D (.list (l.map dSn))] ∧ trainOk T ∧ s.length = T.length ∧ (∀ x ∈ l, snOk T.length x) ∧ r = .bool (justF T s l)
/-! shows_just -/
theorem sc_shows_just : FnScope ["train", "stand", "shows", "i", "way", "shown", "more"] ["train", "stand", "shows"] (defScope s_shows_just) := ⟨rfl, rfl, rfl, by decide +kernel, rfl, by decide +kernel, by decide +kernel⟩
theorem ok_shows_just {f f_pushed : Addr} {fd : FuncData} (F : FnP K "shows_just" s_shows_just f fd) (hm : mg "shows_just" = some (.ref f)) (B : Frs mg) (h_pushed : Has P w K mg base 4 "pushed" ["train", "stand", "i", "way"] p_pushed f_pushed)  : Has P w K mg base 5 "shows_just" ["train", "stand", "shows"] p_shows_just f := by
  refine has_of F hm sc_shows_just (fun ds r h => by obtain ⟨T, s, l, rfl, hT, hs, hl, rfl⟩ := h; rfl) (fun _ _ _ _ _ _ us hl => match us, hl with | [_, _, _], _ => rfl) fun cdv A outer s H E ds r hr hp => ?_
  have hu := hr.u100
  obtain ⟨T, s, l, rfl, hT, hs, hl, rfl⟩ := hp
  apply ends_rt
  refine pbd_for rfl (pid_list (pd_var 2 rfl)) (fun k δ => ∃ (t : List Int) (s1 s2 s3 s4 : Sl), t.length = T.length ∧ justF T t (l.drop k) = justF T s l ∧ δ = [D (dTrain T), D (dStand t), D (.list (l.map dSn)), s1, s2, s3, s4]) ?_ (fun k d δa hd hI => ?_) (fun δa hI => ?_)
  · exact ⟨s, .any, .any, .any, .any, hs, rfl, rfl⟩
  · obtain ⟨t, s1, s2, s3, s4, ht, hj, rfl⟩ := hI
    rw [List.getElem?_map] at hd
    obtain ⟨x, hx, rfl⟩ := Option.map_eq_some_iff.mp hd
    obtain ⟨h1, h2, h3, _⟩ := hl x (List.mem_of_getElem? hx)
    obtain ⟨hk, ek⟩ := List.getElem?_eq_some_iff.mp hx
    rw [List.drop_eq_getElem_cons hk, ek, justF] at hj
    have hcall : p_pushed [D (dTrain T), D (dStand t), D (.int x.1), D (.int x.2.1)] (.tuple [dStand (pushN T t x.1.toNat x.2.1 1).1, .int (pushN T t x.1.toNat x.2.1 1).2]) := ⟨T, t, x.1.toNat, x.2.1, by rw [Int.toNat_of_nonneg h1], hT, ht, by omega, h3, rfl⟩
    by_cases hc : (pushN T t x.1.toNat x.2.1 1).2 = x.2.2
    · rw [if_pos hc] at hj
      refine ⟨_, .nx [D (dTrain T), D (dStand (pushN T t x.1.toNat x.2.1 1).1), D (.list (l.map dSn)), D (.int x.1), D (.int x.2.1), D (.int x.2.2), D (.int (pushN T t x.1.toNat x.2.1 1).2)], (pgd_tup rfl (pgds_cons (pgd_name 3 sc_shows_just.nd) (pgds_cons (pgd_name 4 sc_shows_just.nd) (pgds_cons (pgd_name 5 sc_shows_just.nd) pgds_nil)))), pbd_asg (pd_call h_pushed (hr.mono (by decide)) (pad_cons (pd_var 0 rfl) (pad_cons (pd_var 1 rfl) (pad_cons (pd_var 3 rfl) (pad_cons (pd_var 4 rfl) pad_nil)))) hcall) (pgd_tup rfl (pgds_cons (pgd_name 1 sc_shows_just.nd) (pgds_cons (pgd_name 6 sc_shows_just.nd) pgds_nil))) ?_, _, _, _, _, _, by rw [pushN_len]; exact ht, hj, rfl⟩
      exact b_no (ptd_cmp hu (pd_var 6 rfl) (pd_var 5 rfl) (.ne Ly.shp Ly.shp)) (by rw [eqv_int, decide_eq_true hc]; rfl) (pbd_nx rfl)
    · rw [if_neg hc] at hj
      refine ⟨_, .rt (.bool false) [], (pgd_tup rfl (pgds_cons (pgd_name 3 sc_shows_just.nd) (pgds_cons (pgd_name 4 sc_shows_just.nd) (pgds_cons (pgd_name 5 sc_shows_just.nd) pgds_nil)))), pbd_asg (pd_call h_pushed (hr.mono (by decide)) (pad_cons (pd_var 0 rfl) (pad_cons (pd_var 1 rfl) (pad_cons (pd_var 3 rfl) (pad_cons (pd_var 4 rfl) pad_nil)))) hcall) (pgd_tup rfl (pgds_cons (pgd_name 1 sc_shows_just.nd) (pgds_cons (pgd_name 6 sc_shows_just.nd) pgds_nil))) ?_, by rw [← hj]⟩
      refine b_ifT (ptd_cmp hu (pd_var 6 rfl) (pd_var 5 rfl) (.ne Ly.shp Ly.shp)) (by rw [eqv_int, decide_eq_false hc]; rfl) ?_
      exact b_ret pd_bl rfl
  · obtain ⟨t, s1, s2, s3, s4, ht, hj, rfl⟩ := hI
    rw [List.length_map, List.drop_length, justF] at hj
    rw [← hj]
    exact b_ret pd_bl rfl
def p_explained (ds : List Sl) (r : PyData) : Prop := ∃ (T : List Part) (s : List Int) (l : List Sn), ds = [D (dTrain T), D (dStand s), D (.list (l.map dSn))] ∧ trainOk T ∧ standOk T s ∧ l.length ≤ 1000 ∧ (∀ x ∈ l, snOk T.length x) ∧ r = .list ((explainedF T s l).map dWear)
/-! explained -/
theorem sc_explained : FnScope ["train", "stand", "shows", "one", "wear"] ["train", "stand", "shows"] (defScope s_explained) := ⟨rfl, rfl, rfl, by decide +kernel, rfl, by decide +kernel, by decide +kernel⟩
theorem ok_explained {f f_check_stand f_wears f_shows_just f_worn f_is_show_worn : Addr} {fd : FuncData} (F : FnP K "explained" s_explained f fd) (hm : mg "explained" = some (.ref f)) (B : Frs mg) (h_check_stand : Has P w K mg base 5 "check_stand" ["train", "stand"] p_check_stand f_check_stand) (h_wears : Has P w K mg base 5 "wears" ["train"] p_wears f_wears) (h_shows_just : Has P w K mg base 5 "shows_just" ["train", "stand", "shows"] p_shows_just f_shows_just) (h_worn : Has P w K mg base 7 "worn" ["train", "wear"] p_worn f_worn) (h_is_show_worn : Has P w K mg base 3 "is_show_worn" ["train", "thing"] p_is_show_worn f_is_show_worn)  : Has P w K mg base 8 "explained" ["train", "stand", "shows"] p_explained f := by
  refine has_of F hm sc_explained (fun ds r h => by obtain ⟨T, s, l, rfl, hT, hs, hll, hl, rfl⟩ := h; rfl) (fun _ _ _ _ _ _ us hl => match us, hl with | [_, _, _], _ => rfl) fun cdv A outer s H E ds r hr hp => ?_
  have hu := hr.u100
  obtain ⟨T, s, l, rfl, hT, hs, hll, hl, rfl⟩ := hp
  apply ends_rt
  have hl2 := hT.2.1
  have hwl := wFrom_len (T := T) 0 hT.2.2
  refine pbd_drop (pd_call h_check_stand (hr.mono (by decide)) (pad_cons (pd_var 0 rfl) (pad_cons (pd_var 1 rfl) pad_nil)) ⟨T, s, rfl, hT, hs, rfl⟩) ?_
  refine b_no (ptd_w (w_orF (ptd_not (ptd_val (pd_isList B (pd_var 2 rfl)))) rfl (w_or1 (ptd_not (ptd_val (pd_allT [("one", 3)] l dSn rfl B.all sc_explained.nd (pid_list (pd_var 2 rfl)) (blkOk_by (N := ["train", "stand", "shows", "one", "wear"]) (own := [("one", 3)]) (sc := defScope s_explained) (by decide +kernel)) (fun x hx => ⟨_, fun _ _ _ _ _ => (pgw_name 3 sc_explained.nd), fun _ _ _ _ _ => PED.eq (pd_call h_is_show_worn (hr.mono (by decide)) (pad_cons (pd_var 0 rfl) (pad_cons (pd_var 3 rfl) pad_nil)) ⟨T, x, rfl, hT, hl x hx, rfl⟩) rfl, rfl⟩) (small_size (by omega)))))))) rfl ?_
  refine b_ret (pd_lcM [("wear", 4)] (wearsF T) dWear dWear (fun w => justF (wornF T w) s l) rfl sc_explained.nd (pid_list (pd_call h_wears (hr.mono (by decide)) (pad_cons (pd_var 0 rfl) pad_nil) ⟨T, rfl, hT, rfl⟩)) (blkOk_by (N := ["train", "stand", "shows", "one", "wear"]) (own := [("wear", 4)]) (sc := defScope s_explained) (by decide +kernel)) (fun x hx => ⟨_, fun _ _ _ _ _ => (pgw_name 4 sc_explained.nd), fun _ _ _ _ _ => ptsd_one (PTD.eq (ptd_val (pd_call h_shows_just (hr.mono (by decide)) (pad_cons (pd_call h_worn (hr.mono (by decide)) (pad_cons (pd_var 0 rfl) (pad_cons (pd_var 4 rfl) pad_nil)) ⟨T, x, rfl, hT, wearsF_ok hx, rfl⟩) (pad_cons (pd_var 1 rfl) (pad_cons (pd_var 2 rfl) pad_nil))) ⟨wornF T x, s, l, rfl, (wornF_ok hT (wearsF_ok hx)).1, by rw [(wornF_ok hT (wearsF_ok hx)).2]; exact hs.len, by rw [(wornF_ok hT (wearsF_ok hx)).2]; exact hl, rfl⟩)) rfl), fun hx2 _ _ _ _ _ => PED.eq (pd_var 4 rfl) rfl, rfl⟩) (small_size (by show (wFrom 0 T).length + 1 ≤ 100000; omega))) rfl
end
end Ct

-- DL13
set_option Elab.async false
set_option linter.all false
set_option maxRecDepth 100000
set_option maxHeartbeats 1000000
/-! DL13: zip of three lists, dicts with keys that are ints. -/
namespace Ct
open PySem PySem.Spec L2

/-! ### zip of three lists -/
def ItzC (K : PySem.W.Frag) (a b c : Addr) : It :=
  ⟨fun i H => ∃ (xs ys zs : List V) (x y z : V), SqL K H a xs ∧ SqL K H b ys ∧ SqL K H c zs ∧ xs[i]? = some x ∧ ys[i]? = some y ∧ zs[i]? = some z,
    fun i H v H' => ∃ T x y z, v = .ref T ∧ H T = none ∧ H' = upd H T (.tup [x, y, z]) ∧ (∀ xs, SqL K H a xs → xs[i]? = some x) ∧ (∀ ys, SqL K H b ys → ys[i]? = some y) ∧ ∀ zs, SqL K H c zs → zs[i]? = some z,
    fun i H => ∃ xs ys zs : List V, SqL K H a xs ∧ SqL K H b ys ∧ SqL K H c zs ∧ i = min (min xs.length ys.length) zs.length⟩
theorem turn_zipC {P : Program} {w : World} {K : PySem.W.Frag} {elts : List Expr} {kk : Nat} {tpos : Pos} {a b c : Addr} {N : Nat} (ha : a < N) (hb : b < N) (hc' : c < N) :
    Turn P w K (.Tuple elts kk tpos) (ItzC K a b c) [N + 5, N + 3, N + 4, N, N + 1, N + 2] (N + 5) (fun i h => IsZip h (N + 5) (N + 3) (N + 4) .none ∧ IsTupOf3 h (N + 3) (.ref N) (.ref (N + 1)) (.ref (N + 2)) ∧ (∃ x y z, IsTupOf3 h (N + 4) x y z) ∧ h.IsListIter N a i ∧ h.IsListIter (N + 1) b i ∧ h.IsListIter (N + 2) c i) where
  mem := by simp
  obj := fun i h st e he => by
    obtain ⟨hz, hTI, ⟨x, y, z, hTO⟩, h1, h2, h3⟩ := st
    have e' : e = N + 5 ∨ e = N + 3 ∨ e = N + 4 ∨ e = N ∨ e = N + 1 ∨ e = N + 2 := by simpa using he
    rcases e' with q | q | q | q | q | q
    · rw [q]; exact ⟨_, hz, fun v q => nomatch q⟩
    · rw [q]; exact ⟨_, hTI, fun v q => nomatch q⟩
    · rw [q]; exact ⟨_, hTO, fun v q => nomatch q⟩
    · rw [q]; obtain ⟨o, e, _, d⟩ := h1; exact ⟨o, e, fun v q => by rw [d] at q; cases q⟩
    · rw [q]; obtain ⟨o, e, _, d⟩ := h2; exact ⟨o, e, fun v q => by rw [d] at q; cases q⟩
    · rw [q]; obtain ⟨o, e, _, d⟩ := h3; exact ⟨o, e, fun v q => by rw [d] at q; cases q⟩
  keep := fun i h h' st k => by
    obtain ⟨hz, hTI, ⟨x, y, z, hTO⟩, h1, h2, h3⟩ := st
    exact ⟨k _ (by simp) _ hz, k _ (by simp) _ hTI, ⟨x, y, z, k _ (by simp) _ hTO⟩, h1.at fun o q => k _ (by simp) o q, h2.at fun o q => k _ (by simp) o q, h3.at fun o q => k _ (by simp) o q⟩
  item := by
    intro X hP hw hK hc i pins s σ H E I hf st hg
    subst hP hw hK
    obtain ⟨hz, hTI, hTO, h1, h2, h3⟩ := st
    obtain ⟨xs, ys, zs, x, y, z, hqx, hqy, hqz, hx, hy, hz'⟩ := hg
    obtain ⟨its, rv, p1, _⟩ := I.list hqx
    obtain ⟨its2, rv2, p2, _⟩ := I.list hqy
    obtain ⟨its3, rv3, p3, _⟩ := I.list hqz
    have hh := I.ok.hd hc
    have S : ZipSep3 (N + 5) (N + 3) (N + 4) N (N + 1) (N + 2) [N, a] [N + 1, b] [N + 2, c] := zip_sep3 (fun c hc => by simp at hc; rw [hc]; exact ha) (fun c hc => by simp at hc; rw [hc]; exact hb) (fun c hc => by simp at hc; rw [hc]; exact hc')
    have W := GoesN.zip3 (prog := X.prog) (w := X.w) (A := X.A) (elts := elts) (x1 := kk) (pos := tpos) S (Draws.list (A := X.A.in1) hh N a (Nat.ne_of_lt ha) its.toArray) (Draws.list (A := X.A.in1) hh (N + 1) b (Nat.ne_of_lt (Nat.lt_succ_of_lt hb)) its2.toArray) (Draws.list (A := X.A.in1) hh (N + 2) c (Nat.ne_of_lt (Nat.lt_succ_of_lt (Nat.lt_succ_of_lt hc'))) its3.toArray)
    have li : i < min (min its.toArray.size its2.toArray.size) its3.toArray.size := by
      have e1 := (List.getElem?_eq_some_iff.mp hx).1
      have e2 := (List.getElem?_eq_some_iff.mp hy).1
      have e3 := (List.getElem?_eq_some_iff.mp hz').1
      have l1 := rv.length
      have l2 := rv2.length
      have l3 := rv3.length
      simp only [List.size_toArray]; omega
    refine W.goes i s _ E li ⟨hz, hTI, hTO, ⟨h1, p1.isList⟩, ⟨h2, p2.isList⟩, h3, p3.isList⟩ fun v h' tk ⟨T, u, u2, u3, ev, hT, hu, hu2, hu3, o, ho, hoc, n, hod⟩ ⟨z1, z2, z3, ⟨z4, _⟩, ⟨z5, _⟩, z6, _⟩ hk _ => ?_
    subst ev
    obtain ⟨u', hu', ru⟩ := rv.get hx
    obtain ⟨u2', hu2', ru2⟩ := rv2.get hy
    obtain ⟨u3', hu3', ru3⟩ := rv3.get hz'
    have eu : u' = u := Option.some.inj (hu'.symm.trans (by simpa using hu))
    have eu2 : u2' = u2 := Option.some.inj (hu2'.symm.trans (by simpa using hu2))
    have eu3 : u3' = u3 := Option.some.inj (hu3'.symm.trans (by simpa using hu3))
    subst eu eu2 eu3
    have new : ObjOk X.prog X.w (upd H T (.tup [x, y, z])) h' T (.tup [x, y, z]) := ⟨by show 3 ≤ sizeLine; decide, [u', u2', u3'], .cons ru (.cons ru2 (.cons ru3 .nil)), o, ho, hoc, n, by simpa using hod⟩
    have sub : ∀ e, e ∈ [N + 5, N + 4, N, N + 1, N + 2] → e ∈ [N + 5, N + 3, N + 4, N, N + 1, N + 2] := fun c hc => by
      simp only [List.mem_cons, List.not_mem_nil, or_false] at hc ⊢
      rcases hc with q | q | q | q | q <;> simp [q]
    have I1 : Inv X pins σ (upd H T (.tup [x, y, z])) { s with heap := h', toks := tk } :=
      I.turnedNew (ch := [N + 5, N + 3, N + 4, N, N + 1, N + 2]) (fun c o hb q => hk c o (fun q' => hb (sub c q')) q) hf hT new
    refine ⟨.ref T, _, I1, rfl, ⟨T, x, y, z, rfl, I.hok.fresh hT, rfl, fun l hl => by rw [I.list_inj hl hqx]; exact hx, fun l hl => by rw [I.list_inj hl hqy]; exact hy, fun l hl => by rw [I.list_inj hl hqz]; exact hz'⟩, ⟨z1, z2, z3, z4, z5, z6⟩, fun e hcm => ?_⟩
    have hlt : e < s.heap.objs.size := by
      have e' : e = N + 5 ∨ e = N + 3 ∨ e = N + 4 ∨ e = N ∨ e = N + 1 ∨ e = N + 2 := by simpa using hcm
      rcases e' with q | q | q | q | q | q
      · rw [q]; exact Heap.lt_size hz
      · rw [q]; exact Heap.lt_size hTI
      · rw [q]; obtain ⟨_, _, _, z⟩ := hTO; exact Heap.lt_size z
      · rw [q]; obtain ⟨_, z, _⟩ := h1; exact Heap.lt_size z
      · rw [q]; obtain ⟨_, z, _⟩ := h2; exact Heap.lt_size z
      · rw [q]; obtain ⟨_, z, _⟩ := h3; exact Heap.lt_size z
    rw [upd_ne (Nat.ne_of_lt (Nat.lt_of_lt_of_le hlt hT))]
    exact (hf e hcm).1
  done := by
    intro X hP hw hK hc i pins s σ H E I hf st hg
    subst hP hw hK
    obtain ⟨hz, hTI, hTO, h1, h2, h3⟩ := st
    obtain ⟨xs, ys, zs, hqx, hqy, hqz, hend⟩ := hg
    obtain ⟨its, rv, p1, _⟩ := I.list hqx
    obtain ⟨its2, rv2, p2, _⟩ := I.list hqy
    obtain ⟨its3, rv3, p3, _⟩ := I.list hqz
    have hh := I.ok.hd hc
    have S : ZipSep3 (N + 5) (N + 3) (N + 4) N (N + 1) (N + 2) [N, a] [N + 1, b] [N + 2, c] := zip_sep3 (fun c hc => by simp at hc; rw [hc]; exact ha) (fun c hc => by simp at hc; rw [hc]; exact hb) (fun c hc => by simp at hc; rw [hc]; exact hc')
    have W := GoesN.zip3 (prog := X.prog) (w := X.w) (A := X.A) (elts := elts) (x1 := kk) (pos := tpos) S (Draws.list (A := X.A.in1) hh N a (Nat.ne_of_lt ha) its.toArray) (Draws.list (A := X.A.in1) hh (N + 1) b (Nat.ne_of_lt (Nat.lt_succ_of_lt hb)) its2.toArray) (Draws.list (A := X.A.in1) hh (N + 2) c (Nat.ne_of_lt (Nat.lt_succ_of_lt (Nat.lt_succ_of_lt hc'))) its3.toArray)
    have e : i = min (min its.toArray.size its2.toArray.size) its3.toArray.size := by
      have l1 := rv.length
      have l2 := rv2.length
      have l3 := rv3.length
      simp only [List.size_toArray]; omega
    subst e
    refine W.stops s _ E ⟨hz, hTI, hTO, ⟨h1, p1.isList⟩, ⟨h2, p2.isList⟩, h3, p3.isList⟩ fun h' tk hk _ => ?_
    exact I.turnedL (ch := [N + 5, N + 3, N + 4, N, N + 1, N + 2]) (fun c o hb q => hk c o (fun q' => hb (by
      simp only [List.mem_cons, List.not_mem_nil, or_false] at q' ⊢
      rcases q' with q | q | q | q | q <;> simp [q])) q) hf
  self := fun A i s Q E st h => wpAny_pyIter_zip st.1 h
def zip3D (xs ys zs : List PyData) : List PyData := ((xs.zip ys).zip zs).map fun p => .tuple [p.1.1, p.1.2, p.2]
section
variable {X : Cx} {e a b c tg : Expr} {δ δ1 δ2 δ3 δ' : List Sl} {pos p : Pos}
theorem vsok3 {G : Hp} {xs : List V} {s t u : Sl} (h : VsOk G xs [s, t, u]) : ∃ v1 v2 v3, xs = [v1, v2, v3] ∧ VOk G v1 s ∧ VOk G v2 t ∧ VOk G v3 u := by
  cases h with
  | cons h1 h2 =>
    obtain ⟨v, u, rfl, h3, h4⟩ := vsok2 h2
    exact ⟨_, _, _, rfl, h1, h3, h4⟩
theorem pid_zip3 {xs ys zs : List PyData} {elts : List Expr} {kk : Nat} {tpos : Pos} (hm : X.mg "zip" = none) (ha : PED X δ a (D (.list xs)) δ1) (hb : PED X δ1 b (D (.list ys)) δ2) (hc : PED X δ2 c (D (.list zs)) δ3) (hg : Gl X "zip" := by rfl)
    (hs : starEach [a, b, c] X.env = (false, eval a X.env) :: starEach [b, c] X.env := by rfl) (hs2 : starEach [b, c] X.env = (false, eval b X.env) :: starEach [c] X.env := by rfl) (hs3 : starEach [c] X.env = (false, eval c X.env) :: starEach [] X.env := by rfl) :
    PID X δ (.Tuple elts kk tpos) (.Call (.Name "zip" p) [a, b, c] [] pos) (zip3D xs ys zs) δ3 := by
  refine ⟨fun pins s σ H R I h => ?_⟩
  refine PyProof.Rows.Call_ (ld_blt I hg hm PyProof.Rows.boot_zip (PyProof.Rows.callWith_type1 (thn ((pad_cons ha (pad_cons hb (pad_cons hc pad_nil hs3) hs2) hs).run pos pins s σ H (fun vs H1 => ∃ G0 H0 G G1, StOk X.prog X.w G0 H0 δ σ G H ∧ Same G G1 ∧ StOk X.prog X.w G0 H0 δ3 σ G1 H1 ∧ VsOk G1 vs [D (.list xs), D (.list ys), D (.list zs)] ∧
      ∀ J G' H', Same G G' → StOk X.prog X.w G0 H0 δ3 σ G' H' → ItOk J (zip3D xs ys zs) G' → R J H') I (by
        obtain ⟨G0, H0, G, S, q⟩ := h
        exact ⟨G0, H0, G, S, fun vs G1 H1 g1 S1 rv => ⟨G0, H0, G, G1, S, g1, S1, rv, q⟩⟩)) fun us s1 ⟨vs, H1, I1, r1, z⟩ => ?_) hs (by rw [hs2, hs3]; rfl)))
  obtain ⟨G0, H0, G, G1, S, g1, S1, rv, q⟩ := z
  obtain ⟨v, u, u3, rfl, rv1, rv2, rv3⟩ := vsok3 rv
  obtain ⟨a', us1, rfl, ga, da⟩ := dt_lst rv1
  obtain ⟨b', us2, rfl, gb, db⟩ := dt_lst rv2
  obtain ⟨c', us3, rfl, gc, dc⟩ := dt_lst rv3
  have sa : ∀ H, Same G1 H → SqL X.K H a' us1 := fun H g => .of (g _ _ ga)
  have sb : ∀ H, Same G1 H → SqL X.K H b' us2 := fun H g => .of (g _ _ gb)
  have sc : ∀ H, Same G1 H → SqL X.K H c' us3 := fun H g => .of (g _ _ gc)
  obtain ⟨w1, w2, w3, rfl, e1, e2, e3⟩ := vals3 r1
  cases e1
  cases e2
  cases e3
  obtain ⟨its, r3, p1, _⟩ := I1.list (sa H1 S1.gh)
  obtain ⟨its2, r4, p2, _⟩ := I1.list (sb H1 S1.gh)
  obtain ⟨its3, r5, p3, _⟩ := I1.list (sc H1 S1.gh)
  have la : a' < s1.heap.objs.size := by obtain ⟨o, e, _⟩ := p1.isList; exact Heap.lt_size e
  have lb : b' < s1.heap.objs.size := by obtain ⟨o, e, _⟩ := p2.isList; exact Heap.lt_size e
  have lc : c' < s1.heap.objs.size := by obtain ⟨o, e, _⟩ := p3.isList; exact Heap.lt_size e
  refine zip_begins3 (begins_list a' its.toArray) (begins_list b' its2.toArray) (begins_list c' its3.toArray) p1.isList p2.isList p3.isList fun h' hz hTI hTO h1 h2 h3 hsz hk => wpAny_pyIter_zip hz ?_
  have I2 : Inv X pins σ H1 { s1 with heap := h' } := I1.kept (t' := s1.toks) hk
  refine ⟨s1.heap.objs.size + 5, [s1.heap.objs.size + 5, s1.heap.objs.size + 3, s1.heap.objs.size + 4, s1.heap.objs.size, s1.heap.objs.size + 1, s1.heap.objs.size + 2], _, _, H1, rfl, I2, turn_zipC la lb lc, ⟨hz, hTI, ⟨_, _, _, hTO⟩, ⟨_, h1, rfl, rfl⟩, ⟨_, h2, rfl, rfl⟩, ⟨_, h3, rfl, rfl⟩⟩, fun e hcm => ?_, q _ G1 H1 g1 S1 ?_⟩
  · have e' : e = s1.heap.objs.size + 5 ∨ e = s1.heap.objs.size + 3 ∨ e = s1.heap.objs.size + 4 ∨ e = s1.heap.objs.size ∨ e = s1.heap.objs.size + 1 ∨ e = s1.heap.objs.size + 2 := by simpa using hcm
    have hle : s1.heap.objs.size ≤ e := by
      rcases e' with z | z | z | z | z | z
      · rw [z]; exact Nat.le_add_right _ _
      · rw [z]; exact Nat.le_add_right _ _
      · rw [z]; exact Nat.le_add_right _ _
      · rw [z]; exact Nat.le_refl _
      · rw [z]; exact Nat.le_add_right _ _
      · rw [z]; exact Nat.le_add_right _ _
    exact I1.fpOk hle (I1.hok.fresh hle)
  · have hl : (zip3D xs ys zs).length = min (min us1.length us2.length) us3.length := by unfold zip3D; rw [List.length_map, List.length_zip, List.length_zip, da.length, db.length, dc.length]
    refine ⟨fun i d H hd g => ?_, fun i d H x H' hd g y => ?_, fun H g => ⟨us1, us2, us3, sa H g, sb H g, sc H g, hl⟩⟩
    · have hi := (List.getElem?_eq_some_iff.mp hd).1
      rw [hl] at hi
      have i1 : i < us1.length := by omega
      have i2 : i < us2.length := by omega
      have i3 : i < us3.length := by omega
      exact ⟨us1, us2, us3, us1[i], us2[i], us3[i], sa H g, sb H g, sc H g, List.getElem?_eq_getElem i1, List.getElem?_eq_getElem i2, List.getElem?_eq_getElem i3⟩
    · obtain ⟨T, x', y', z', rfl, hT, rfl, f1, f2, f3⟩ := y
      obtain ⟨d1', e1, e2⟩ := da.get' (f1 _ (sa H g))
      obtain ⟨d2', e3, e4⟩ := db.get' (f2 _ (sb H g))
      obtain ⟨d3', e5, e6⟩ := dc.get' (f3 _ (sc H g))
      have hd' : (zip3D xs ys zs)[i]? = some (.tuple [d1', d2', d3']) := by
        unfold zip3D
        rw [List.getElem?_map, (List.getElem?_zip_eq_some (z := ((d1', d2'), d3'))).mpr ⟨(List.getElem?_zip_eq_some (z := (d1', d2'))).mpr ⟨e1, e3⟩, e5⟩]; rfl
      rw [hd'] at hd; cases hd
      exact .inr ⟨T, _, _, rfl, hT, rfl, rfl, .cons e2 (.cons e4 (.cons e6 .nil))⟩
end

/-! ### dicts whose keys are ints -/
section
variable {β : Type} {dv : β → PyData} {G : Hp}
def dEntZ (dv : β → PyData) (M : List (Int × β)) : List (Int × PyData) := M.map fun e => (e.1, dv e.2)
theorem entZ_get : ∀ {M : List (Int × β)} {zs : List (Key × V)} (k : Int), Paired (DiOk G) zs (dEntZ dv M) → (aGet M k = none → valV zs (Sum.inl k) = none) ∧ ∀ b, aGet M k = some b → ∃ v, valV zs (Sum.inl k) = some v ∧ Dt G v (dv b)
  | [], _, k, h => by
    cases h
    exact ⟨fun _ => rfl, fun b h => by cases h⟩
  | e :: M, _, k, h => by
    cases h with
    | cons q t =>
      rename_i z zs
      obtain ⟨q1, q2⟩ := q
      have ih := entZ_get (M := M) k t
      by_cases hk : e.1 = k
      · have hz : z.1 = Sum.inl k := by rw [q1, hk]
        refine ⟨fun hn => by simp [aGet, hk] at hn, fun b hb => ?_⟩
        simp [aGet, hk] at hb
        subst hb
        exact ⟨z.2, valV_pos hz, q2⟩
      · have hz : ¬ z.1 = Sum.inl k := by rw [q1]; intro h; cases h; exact hk rfl
        have e1 : aGet (e :: M) k = aGet M k := by simp [aGet, hk]
        rw [e1, valV_neg hz]
        exact ih
theorem entZ_put {M : List (Int × β)} {zs : List (Key × V)} (k : Int) (b : β) {v : V} (h : Paired (DiOk G) zs (dEntZ dv M)) (r : Dt G v (dv b)) : Paired (DiOk G) (putK zs (Sum.inl k) v) (dEntZ dv (aPut M k b)) := by
  have hs : (zs.any fun kv => decide (kv.1 = Sum.inl k)) = (aGet M k).isSome := by
    clear r
    induction M generalizing zs with
    | nil => cases h; rfl
    | cons e M ih =>
      cases h with
      | cons q t =>
        rename_i z zs
        rw [List.any_cons, ih t]
        by_cases hk : e.1 = k
        · have hz : z.1 = Sum.inl k := by rw [q.1, hk]
          simp [aGet, hk, hz]
        · have hz : ¬ z.1 = Sum.inl k := by rw [q.1]; intro h; cases h; exact hk rfl
          simp [aGet, hk, hz]
  unfold putK aPut
  rw [hs]
  cases (aGet M k).isSome with
  | false =>
    simp only [if_neg Bool.false_ne_true]
    unfold dEntZ at h ⊢
    rw [List.map_append]
    exact paired_app h (.cons ⟨rfl, r⟩ .nil)
  | true =>
    simp only [if_true]
    clear hs
    induction M generalizing zs with
    | nil => cases h; exact .nil
    | cons e M ih =>
      cases h with
      | cons q t =>
        rename_i z zs
        refine .cons ?_ (ih t)
        dsimp only
        by_cases hk : e.1 = k
        · rw [if_pos (by rw [q.1, hk]), if_pos hk]; exact ⟨q.1, r⟩
        · rw [if_neg (by rw [q.1]; intro h; cases h; exact hk rfl), if_neg hk]; exact q
end
section
variable {X : Cx} {e a b c : Expr} {δ δ1 δ2 δ' : List Sl} {pos p : Pos} {rest : List Stmt} {bs : List (List Stmt)} {o : Out} {β : Type} {dv : β → PyData} {M : List (Int × β)} {k : Int} {v : β} {x : Str} {p1 : Pos}
/-- name = {} -/
theorem pbd_newZ (i : Nat) {pos' dpos : Pos} (hN : X.N.Nodup) (hr : PBD X (δ.set i (.dki [])) (rest :: bs) o) (hi : X.N[i]? = some x := by rfl) (hx : Loc X.env.scope x := by first | exact Or.inl rfl | exact Or.inr rfl)
    (hs : swapsWith (.Dict [] [] dpos) (some (.Name x pos')) pos.line X.env = pure false := by rfl) (hf : X.fn x = true ∨ X.env.scope.names.lookup x = some .local := by first | exact .inl rfl | exact .inr rfl | assumption) :
    PBD X δ ((.Assign [.Name x pos'] (.Dict [] [] dpos) pos :: rest) :: bs) o :=
  (pb_cons (ps_set hN hi hx pe_dnewK hs hf)).imp fun E σ H ⟨G0, H0, G, S, q⟩ => fun l hl => ⟨_, hr, G0, H0, G, S.storeNew hl ⟨l, [], rfl, upd_same, .nil⟩ rfl, q⟩
/-- d[k] = v -/
theorem pbd_putZ (i : Nat) {tpos : Pos} (he : PED X δ e (D (dv v)) δ1) (hd : δ1[i]? = some (.dki (dEntZ dv M))) (hu : X.A.units + 100 < cLine) (ha : PED X δ1 a (D (.int k)) δ1) (hz : M.length < sizeLine)
    (hr : PBD X (δ1.set i (.dki (dEntZ dv (aPut M k v)))) (rest :: bs) o)
    (hN : X.N[i]? = some x := by rfl) (hv : Vis X.env.scope x := by first | exact Or.inl rfl | exact Or.inr (Or.inl rfl) | exact Or.inr (Or.inr rfl)) (hdb : (x == ("__debug__" : Str)) = false := by decide) (hcd : (x == ("__classdict__" : Str)) = false := by decide)
    (has : ∀ v, assign (.Subscript (.Name x p1) a tpos) X.env v = (do
      let ov ← holding [v] (eval (.Name x p1) X.env)
      let iv ← holding [v, ov] (eval a X.env)
      standAt tpos
      holding [v, ov, iv] (setItem ov iv v)
      release [v, ov, iv] []) := by intro _; rfl)
    (hs : swapsWithSole [.Subscript (.Name x p1) a tpos] e pos.line X.env = pure false := by rfl) (hw : swappedStores [.Subscript (.Name x p1) a tpos] e X.env = pure none := by rfl)
    (h1 : (assignEach [.Subscript (.Name x p1) a tpos] X.env).map (·.2) = [assign (.Subscript (.Name x p1) a tpos) X.env] := by rfl) :
    PBD X δ ((.Assign [.Subscript (.Name x p1) a tpos] e pos :: rest) :: bs) o :=
  (pb_cons (ps_asg he (pg_sub (pv i hN hv hdb hcd) ha (set_dict (by omega)) has) hs hw h1)).imp fun E σ H ⟨G0, H0, G, S, q⟩ => by
    refine ⟨G0, H0, G, S, fun u G1 H1 g1 S1 ru => ?_⟩
    obtain ⟨p, zs, e1, _⟩ := S1.dkiAt hd
    refine ⟨.ref p, e1, G0, H0, G1, S1, fun y G2 H2 g2 S2 ry => ?_⟩
    obtain ⟨p', zs', e1', hp, hk, ho⟩ := S2.dkiAt hd
    rw [e1] at e1'; cases e1'
    have hl : zs'.length = M.length := by rw [Paired.length hk]; unfold dEntZ; rw [List.length_map]
    refine ⟨p, _, rfl, ?_, ⟨_, hr, G0, H0, G2, S2.mut (o := .dK (putK zs' (Sum.inl k) u)) hd ho ?_ rfl, q.up (same_trans g1 g2)⟩⟩
    · rw [dt_int ry]
      exact DPut.k (k := Sum.inl k) hp (by rw [hl]; exact hz)
    · exact ⟨p, _, rfl, upd_same, entZ_put k v hk (Dt.up ru g2)⟩
/-- d.setdefault(k, v): as it stands, or put -/
theorem pd_setdO (i : Nat) {apos : Pos} {u : β} (hd : δ[i]? = some (.dki (dEntZ dv M))) (ha : PED X δ a (D (.int k)) δ) (hb : PED X δ b (D (dv v)) δ) (hz : M.length < sizeLine) (hg : aGet M k = some u) (m : M2 X (.Name x p1) "setdefault" apos a b pos := by exact ⟨rfl, rfl, rfl, rfl⟩)
    (hN : X.N[i]? = some x := by rfl) (hv : Vis X.env.scope x := by first | exact Or.inl rfl | exact Or.inr (Or.inl rfl) | exact Or.inr (Or.inr rfl)) (hdb : (x == ("__debug__" : Str)) = false := by decide) (hcd : (x == ("__classdict__" : Str)) = false := by decide) :
    PED X δ (.Call (.Attribute (.Name x p1) "setdefault" apos) [a, b] [] pos) (D (dv u)) δ :=
  (pe_dsetd (pv i hN hv hdb hcd) ha hb m).imp fun σ H Q ⟨G0, H0, G, S, q⟩ => by
    obtain ⟨p, zs, e1, hp, hk, ho⟩ := S.dkiAt hd
    refine ⟨.ref p, e1, p, rfl, .inl ⟨zs, .inl hp⟩, G0, H0, G, S, fun y G1 H1 g1 S1 ry => ⟨G0, H0, G1, S1, fun z G2 H2 g2 S2 rz => ?_⟩⟩
    obtain ⟨p', zs', e1', hp', hk', ho'⟩ := S2.dkiAt hd
    rw [e1] at e1'; cases e1'
    have hl : zs'.length = M.length := by rw [Paired.length hk']; unfold dEntZ; rw [List.length_map]
    obtain ⟨v', e2, r2⟩ := (entZ_get k hk').2 u hg
    refine ⟨zs', Sum.inl k, hp', dt_int ry, by rw [hl]; exact hz, fun w ew => ?_, fun n => ?_⟩
    · rw [e2] at ew; cases ew
      exact q _ G2 H2 (same_trans g1 g2) S2 r2
    · rw [e2] at n; cases n
theorem pd_setdN (i : Nat) {apos : Pos} (hd : δ[i]? = some (.dki (dEntZ dv M))) (ha : PED X δ a (D (.int k)) δ) (hb : PED X δ b (D (dv v)) δ) (hz : M.length < sizeLine) (hg : aGet M k = none) (m : M2 X (.Name x p1) "setdefault" apos a b pos := by exact ⟨rfl, rfl, rfl, rfl⟩)
    (hN : X.N[i]? = some x := by rfl) (hv : Vis X.env.scope x := by first | exact Or.inl rfl | exact Or.inr (Or.inl rfl) | exact Or.inr (Or.inr rfl)) (hdb : (x == ("__debug__" : Str)) = false := by decide) (hcd : (x == ("__classdict__" : Str)) = false := by decide) :
    PED X δ (.Call (.Attribute (.Name x p1) "setdefault" apos) [a, b] [] pos) (D (dv v)) (δ.set i (.dki (dEntZ dv (aPut M k v)))) :=
  (pe_dsetd (pv i hN hv hdb hcd) ha hb m).imp fun σ H Q ⟨G0, H0, G, S, q⟩ => by
    obtain ⟨p, zs, e1, hp, hk, ho⟩ := S.dkiAt hd
    refine ⟨.ref p, e1, p, rfl, .inl ⟨zs, .inl hp⟩, G0, H0, G, S, fun y G1 H1 g1 S1 ry => ⟨G0, H0, G1, S1, fun z G2 H2 g2 S2 rz => ?_⟩⟩
    obtain ⟨p', zs', e1', hp', hk', ho'⟩ := S2.dkiAt hd
    rw [e1] at e1'; cases e1'
    have hl : zs'.length = M.length := by rw [Paired.length hk']; unfold dEntZ; rw [List.length_map]
    refine ⟨zs', Sum.inl k, hp', dt_int ry, by rw [hl]; exact hz, fun w ew => ?_, fun n => ?_⟩
    · rw [(entZ_get k hk').1 hg] at ew; cases ew
    · exact q _ G2 _ (same_trans g1 g2) (S2.mut (o := .dK (putK zs' (Sum.inl k) z)) hd ho' ⟨p, _, rfl, upd_same, entZ_put k v hk' rz⟩ rfl) rz
end
end Ct

-- DL14
set_option Elab.async false
set_option linter.all false
set_option maxRecDepth 100000
set_option maxHeartbeats 1000000
/-! DL14: sorted(d.keys()) of int keys, a, b = x, y. -/
namespace Ct
open PySem PySem.Spec L2
theorem sz_push {h : Heap} {o : Obj} : (h.push o).objs.size = h.objs.size + 1 := Heap.size_push h o
/-- a view of a dict's keys -/
def KvO (p d : Addr) : HO := .ext fun h => PySem.W.KdlKeysView h p d
def sortI (l : List Int) : List Int := l.mergeSort fun a b => decide (a ≤ b)
theorem sortI_uniq {l ys : List Int} (hp : ys.Perm l) (hs : ys.Pairwise (· ≤ ·)) : ys = sortI l := by
  have h1 : (sortI l).Pairwise (· ≤ ·) := by
    have := List.pairwise_mergeSort (le := fun a b : Int => decide (a ≤ b)) (fun a b c h1 h2 => decide_eq_true (Int.le_trans (of_decide_eq_true h1) (of_decide_eq_true h2))) (fun a b => by
      rcases Int.le_total a b with h | h
      · simp [h]
      · simp [h]) l
    exact this.imp fun h => of_decide_eq_true h
  exact List.Perm.eq_of_pairwise (fun a b _ _ h1 h2 => Int.le_antisymm h1 h2) hs h1 (hp.trans (List.mergeSort_perm l _).symm)
section
variable {X : Cx} {e : Expr} {te : TE} {apos cpos pos p : Pos} {δ : List Sl} {β : Type} {dv : β → PyData} {M : List (Int × β)} {x : Str} {p1 : Pos}
theorem pe_keysV (he : PE X e te) (hbase : attributeBase e "keys" X.env (eval e X.env) = eval e X.env := by rfl) (hline : (apos.endLine == cpos.line) = true := by rfl) : PE X (.Call (.Attribute e "keys" apos) [] [] cpos) (fun σ H Q => te σ H fun x H1 => ∃ d kvs, x = .ref d ∧ H1 d = some (.dK kvs) ∧ ∀ p, H1 p = none → Q (.ref p) (upd H1 p (KvO p d))) := by
  refine ⟨fun pins s σ H Q I h => ?_⟩
  refine wpAny_Call_method (T := "dict") (id := "dict.keys") hbase rfl hline PySem.F.plainAttrs_dict PySem.F.slot_dict_keys PySem.F.type_dict_keys (thn (he.run pins s σ H _ I h) fun u s1 ⟨x, H1, I1, rx, d, kvs, ex, hd, q⟩ => ?_)
  subst ex
  obtain rfl : u = Value.ref d := rx
  obtain ⟨_, hs, vs, kv, dd⟩ := dk_of I1.hok hd
  refine ⟨dd.typeIs, dd.mapOf.noDict, ?_⟩
  show wpAny _ _ (callWith cpos (.builtin "dict.keys") [.ref d] [] []) _ X.xe s1
  refine method_meetsIn PySem.F.slot_dict_keys PySem.F.entry_dict_keys rfl (PySem.evalArgs_none ⟨rfl, dd.typeIs, PySem.F.args_dict_keys_1 _, _, PySem.W.kdl_meets_keys (mixKind X.prog X.w) d hs, ⟨vs, dd⟩, ?_⟩)
  have R : PySem.W.KdlKeysView (s1.heap.push { cls := .type "dict_keys", data := .fields #[.ref d] }) s1.heap.objs.size d := ⟨_, Heap.get?_push_size _ rfl, rfl, rfl⟩
  have new : ObjOk X.prog X.w (upd H1 s1.heap.objs.size (KvO s1.heap.objs.size d)) (s1.heap.push { cls := .type "dict_keys", data := .fields #[.ref d] }) s1.heap.objs.size (KvO s1.heap.objs.size d) :=
    ⟨R, ⟨_, Heap.get?_push_size _ rfl⟩, fun h1 h2 ⟨o, ho, r⟩ k => ⟨o, k o ho, r⟩⟩
  exact ⟨.ref s1.heap.objs.size, _, I1.laid (t' := s1.toks) (fun b ob q => Heap.get?_push_of_some _ q) (Nat.le_refl _) new, rfl, q _ (I1.hok.fresh (Nat.le_refl _))⟩
def rSortKV : List V → Hp → VK → Prop := fun xs H Q => ∃ (v d : Addr) (kvs : List (Key × V)) (ks : List Int), xs = [.ref v] ∧ H v = some (KvO v d) ∧ H d = some (.dK kvs) ∧ kvs.map (·.1) = ks.map Sum.inl ∧ ks.length < 64 ∧
  ∀ p, H p = none → Q (.ref p) (upd H p (.lst ((sortI ks).map V.int)))
theorem call_sortKV (hcalm : X.calm = true) : CallR X (.builtin "sorted") rSortKV := by
  intro pins s σ H xs us Q I r q
  obtain ⟨v, a, kvs, ks, ex, hv, hd, hks, h64, q⟩ := q
  subst ex
  obtain ⟨u, eu, rx⟩ := vals1 r
  subst eu
  cases rx
  obtain ⟨z, lo, vs, rel, dd⟩ := dk_of I.hok hd
  obtain ⟨ep, hat⟩ := dd.dictAt
  have hview : PySem.W.KdlKeysView s.heap v a := (I.hok v _ hv).1
  have hkeys : vs.map (·.1) = ks.map Sum.inl := rel.keys.symm.trans hks
  have hl : vs.length = ks.length := by
    have e := congrArg List.length hkeys
    rw [List.length_map, List.length_map] at e
    exact e
  have h16 : vs.length ≤ sizeLine := by rw [hl, sizeLine_eq]; omega
  refine Calls.call_function_entry PyProof.Rows.kind_sorted PyProof.Rows.plain_sorted PyProof.Rows.entry_sorted (PyProof.Rows.args_sorted1 _) ?_
  unfold Builtin.«sorted»
  refine wpAny_bind (m := checkCount "sorted" 1 1 _) (wpAny_pure ?_)
  refine wpAny_bind (PySem.W.kdu_collect (A := X.A.in1) (PySem.W.kdl_keys (knd := mixKind X.prog X.w) (kvs := vs) (ep := ep) (r := v) (d := a)) (I.ok.hd hcalm) ⟨hview, hat⟩ h16 fun h' tk acc hk hacc => ?_)
  have hal : acc.toList.length = ks.length := by rw [Array.length_toList, hacc.1, hl]
  have hS : PyProof.Rows.IntsAre acc.toList ks := ints_each hal fun j v e => by
    obtain ⟨k, x, e1, e2⟩ := hacc.2 j v (by rw [← Array.getElem?_toList]; exact e)
    have e3 : (vs.map (·.1))[j]? = some k := by rw [List.getElem?_map, e1]; rfl
    rw [hkeys, List.getElem?_map] at e3
    cases e4 : ks[j]? with
    | none => rw [e4] at e3; cases e3
    | some y =>
      rw [e4] at e3
      have e5 : Sum.inl y = k := Option.some.inj e3
      subst e5
      rcases keyIs_shape (show keyIs (Sum.inl y) v = true from e2) with ⟨i, t, ek, ev⟩ | ⟨z, t, ek, ev⟩
      · cases ek
        exact ⟨y, t, rfl, ev⟩
      · cases ek
  have I1 : Inv X pins σ H { s with heap := h', toks := tk } := I.kept hk
  refine wpAny_bind (wpAny_newList ?_ (by rw [hal, sizeLine_eq]; omega))
  have hoL : (h'.push (PyProof.Rows.seqObj "list" acc.toList.toArray 0)).get? h'.objs.size = some (PyProof.Rows.seqObj "list" acc.toList.toArray 0) := Heap.get?_push_size _ rfl
  show wpAny _ _ _ _ _ { s with heap := h'.push (PyProof.Rows.seqObj "list" acc.toList.toArray 0), toks := tk }
  refine wpAny_bind (wpAny_holding (wpAny_call_entry PyProof.Rows.slot_list_sort ⟨_, hoL, rfl⟩ PyProof.Rows.entry_list_sort
    (PyProof.Rows.list_sort_tree (s := { s with heap := h'.push (PyProof.Rows.seqObj "list" acc.toList.toArray 0), toks := tk }) hoL hS (by rw [hal]; exact h64) fun out ys g1 g2 g3 => ⟨_, rfl, ?_⟩) (PyProof.Rows.args_list_sort _)))
  obtain ⟨e', he'⟩ := PyProof.Rows.sortedHeap_at (vs := acc.toList) (out := out) hoL
  have eys := sortI_uniq g2 g3
  subst eys
  have hlen : ((sortI ks).map V.int).length ≤ sizeLine := by
    rw [List.length_map, g2.length_eq]
    exact Nat.le_trans (Nat.le_of_lt h64) (by decide)
  refine wpAny_pure ⟨_, rfl, .ref h'.objs.size, upd H h'.objs.size (.lst ((sortI ks).map V.int)), I1.laid (t' := tk) (fun b u e => ?_) (Nat.le_refl _)
    (show ObjOk X.prog X.w _ _ _ (.lst ((sortI ks).map V.int)) from ⟨hlen, out.toList, e', vals_of_ints g1, by rw [Array.toArray_toList]; exact he'⟩), rfl, q _ (I1.hok.fresh (Nat.le_refl _))⟩
  have hb : b < h'.objs.size := Heap.lt_size e
  rw [PyProof.Rows.sortedHeap_old (Nat.ne_of_lt hb) (by rw [sz_push]; exact Nat.lt_succ_of_lt hb)]
  exact Heap.get?_push_of_some _ e
/-- sorted(name.keys()) -/
theorem pd_sortedKeysZ (i : Nat) (hc : X.calm = true) (hm : X.mg "sorted" = none) (hd : δ[i]? = some (.dki (dEntZ dv M))) (hl : M.length < 64)
    (hN : X.N[i]? = some x := by rfl) (hv : Vis X.env.scope x := by first | exact Or.inl rfl | exact Or.inr (Or.inl rfl) | exact Or.inr (Or.inr rfl)) (hg : Gl X "sorted" := by rfl) (hdb : (x == ("__debug__" : Str)) = false := by decide) (hcd : (x == ("__classdict__" : Str)) = false := by decide)
    (hbase : attributeBase (.Name x p1) "keys" X.env (eval (.Name x p1) X.env) = eval (.Name x p1) X.env := by rfl) (hline : (apos.endLine == cpos.line) = true := by rfl)
    (he : starEach [.Call (.Attribute (.Name x p1) "keys" apos) [] [] cpos] X.env = (false, eval (.Call (.Attribute (.Name x p1) "keys" apos) [] [] cpos) X.env) :: starEach [] X.env := by rfl) :
    PED X δ (.Call (.Name "sorted" p) [.Call (.Attribute (.Name x p1) "keys" apos) [] [] cpos] [] pos) (D (.list ((sortI (M.map (·.1))).map .int))) δ :=
  (pe_callB (call_sortKV hc) hg hm PyProof.Rows.boot_sorted (pa_cons (pe_keysV (pv i hN hv hdb hcd) hbase hline) pa_nil he) (he := he)).imp fun σ H Q ⟨G0, H0, G, S, q⟩ => by
    obtain ⟨l, zs, e1, hl', hk, _⟩ := S.dkiAt hd
    refine ⟨.ref l, e1, l, zs, rfl, hl', fun v hv => ?_⟩
    have fv := S.offNew hv
    have S1 : StOk X.prog X.w G0 H0 δ σ G (upd H v (KvO v l)) := S.other fv
    have hne : l ≠ v := by intro z; subst z; rw [hl'] at hv; cases hv
    refine ⟨v, l, zs, M.map (·.1), rfl, upd_same, by rw [upd_ne hne]; exact hl', ?_, by rw [List.length_map]; exact hl, fun k hk' => ?_⟩
    · clear hl' hl hd
      have : ∀ {zs : List (Key × V)} {M : List (Int × β)}, Paired (DiOk G) zs (dEntZ dv M) → zs.map (·.1) = (M.map (·.1)).map Sum.inl := by
        intro zs M
        induction M generalizing zs with
        | nil => intro h; cases h; rfl
        | cons e M ih =>
          intro h
          cases h with
          | cons q t => rw [List.map_cons, List.map_cons, List.map_cons, ih t, q.1]
      exact this hk
    · exact Ext.lst S1.gh (fun v G' H' x rv => q v G' H' x.gg (S1.ext x) rv) (dt_ints _) k hk'
/-- a, b = x, y -/
theorem pbd_par (i j : Nat) {y : Str} {a b : Expr} {px py pt : Pos} {kt k2 pt2} {da db : PyData} {rest : List Stmt} {bs : List (List Stmt)} {o : Out} {δ1 δ2 : List Sl} (hc : X.calm = true) (hN : X.N.Nodup) (ha : PED X δ a (D da) δ1) (hb : PED X δ1 b (D db) δ2) (hr : PBD X ((δ2.set i (D da)).set j (D db)) (rest :: bs) o)
    (hw : swappedStores [.Tuple [.Name x px, .Name y py] kt pt] (.Tuple [a, b] k2 pt2) X.env = pure (some [x, y]))
    (hi : X.N[i]? = some x := by rfl) (hj : X.N[j]? = some y := by rfl) (hij : i ≠ j := by decide)
    (hx : X.env.scope.names.lookup x = some .local := by rfl) (hy : X.env.scope.names.lookup y = some .local := by rfl)
    (he : starEach [a, b] X.env = (false, eval a X.env) :: starEach [b] X.env := by rfl) (he2 : starEach [b] X.env = (false, eval b X.env) :: starEach [] X.env := by rfl)
    (hs : swapsWithSole [.Tuple [.Name x px, .Name y py] kt pt] (.Tuple [a, b] k2 pt2) pos.line X.env = pure false := by rfl) :
    PBD X δ ((.Assign [.Tuple [.Name x px, .Name y py] kt pt] (.Tuple [a, b] k2 pt2) pos :: rest) :: bs) o :=
  (pb_cons (ps_par hc hN hi hj hij hx hy (pad_cons ha (pad_cons hb pad_nil he2) he) hw hs)).imp fun E σ H ⟨G0, H0, G, S, q⟩ => ⟨G0, H0, G, S, fun vs G1 H1 g1 S1 rv => by
    obtain ⟨v, u, rfl, rv1, rv2⟩ := vsok2 rv
    exact ⟨v, u, rfl, _, hr, G0, H0, G1, (S1.store (s := D da) rv1).store (s := D db) rv2, q.up g1⟩⟩
end
end Ct

-- M6
set_option Elab.async false
set_option linter.all false
set_option maxRecDepth 100000
set_option maxHeartbeats 1000000
/-! M6: the smallest wheel, plain mathematics. -/
namespace Ct
open PySem
/-- a push and what was shown at it -/
abbrev Sh := Int × Int
def dSh (x : Sh) : PyData := .tuple [.int x.1, .int x.2]
def unit3 (v : Int) : Prop := v = 1 ∨ v = -1 ∨ v = 0
def shOk (x : Sh) : Prop := isWay x.1 ∧ unit3 x.2
def dOpt : Option Int → PyData
  | none => .none
  | some i => .int i
def passF : Int → List Int → List (Option Int)
  | _, [] => []
  | here, w :: ws => (if w = 0 then none else some (here + if w = 1 then 1 else 0)) :: passF (here + w) ws
def passed (ws : List Int) : List (Option Int) := passF 0 ws
theorem passF_len : ∀ (h : Int) (ws : List Int), (passF h ws).length = ws.length
  | _, [] => rfl
  | h, w :: ws => congrArg Nat.succ (passF_len (h + w) ws)
theorem passF_none : ∀ {h : Int} {ws : List Int} {k : Nat}, (passF h ws)[k]? = some none → ws[k]? = some 0
  | h, [], k, e => by simp [passF] at e
  | h, w :: ws, 0, e => by
    have e' : some (if w = 0 then none else some (h + if w = 1 then 1 else 0)) = some none := e
    by_cases hw : w = 0
    · rw [hw]; rfl
    · rw [if_neg hw] at e'; cases e'
  | h, w :: ws, k + 1, e => passF_none (h := h + w) (ws := ws) (k := k) (by simpa [passF] using e)
theorem passF_some : ∀ {h : Int} {ws : List Int} {k : Nat} {t : Int}, (∀ w ∈ ws, unit3 w) → (passF h ws)[k]? = some (some t) → (∃ w, ws[k]? = some w ∧ w ≠ 0) ∧ h - ws.length ≤ t ∧ t ≤ h + ws.length
  | h, [], k, t, _, e => by simp [passF] at e
  | h, w :: ws, 0, t, hu, e => by
    have e' : some (if w = 0 then none else some (h + if w = 1 then 1 else 0)) = some (some t) := e
    have hw3 := hu w List.mem_cons_self
    by_cases hw : w = 0
    · rw [if_pos hw] at e'; cases e'
    · rw [if_neg hw] at e'
      simp only [Option.some.injEq] at e'
      refine ⟨⟨w, rfl, hw⟩, ?_⟩
      rw [List.length_cons]
      split at e' <;> omega
  | h, w :: ws, k + 1, t, hu, e => by
    have hw3 := hu w List.mem_cons_self
    obtain ⟨h1, h2⟩ := passF_some (h := h + w) (ws := ws) (k := k) (t := t) (fun x hx => hu x (List.mem_cons_of_mem _ hx)) (by simpa [passF] using e)
    refine ⟨by simpa using h1, ?_⟩
    rw [List.length_cons]
    unfold unit3 at hw3
    omega
/-! ### the first wrong one -/
def wrongF : Nat → List Int → List Sh → Option Nat
  | k, w :: ws, x :: xs => if x.2 ≠ 0 ∧ x.2 ≠ w then some k else wrongF (k + 1) ws xs
  | _, _, _ => none
theorem wrongF_some : ∀ {k : Nat} {ws : List Int} {xs : List Sh} {r : Nat}, wrongF k ws xs = some r → ∃ j w x, r = k + j ∧ ws[j]? = some w ∧ xs[j]? = some x ∧ x.2 ≠ 0 ∧ x.2 ≠ w
  | k, [], xs, r, h => by simp [wrongF] at h
  | k, w :: ws, [], r, h => by simp [wrongF] at h
  | k, w :: ws, x :: xs, r, h => by
    unfold wrongF at h
    split at h
    · rename_i hc
      cases h
      exact ⟨0, w, x, rfl, rfl, rfl, hc.1, hc.2⟩
    · obtain ⟨j, w', x', h1, h2, h3, h4⟩ := wrongF_some h
      exact ⟨j + 1, w', x', by omega, h2, h3, h4⟩
theorem wrongF_none : ∀ {k : Nat} {ws : List Int} {xs : List Sh} {j : Nat} {w : Int} {x : Sh}, wrongF k ws xs = none → ws[j]? = some w → xs[j]? = some x → x.2 = 0 ∨ x.2 = w
  | k, [], xs, j, w, x, _, hw, _ => by simp at hw
  | k, w0 :: ws, [], j, w, x, _, _, hx => by simp at hx
  | k, w0 :: ws, x0 :: xs, j, w, x, h, hw, hx => by
    unfold wrongF at h
    split at h
    · cases h
    · rename_i hc
      cases j with
      | zero =>
        cases hw; cases hx
        by_cases h0 : x0.2 = 0
        · exact .inl h0
        · exact .inr (Decidable.not_not.mp fun q => hc ⟨h0, q⟩)
      | succ j => exact wrongF_none h (by simpa using hw) (by simpa using hx)
/-! ### two pushes that pass one place -/
def placeF (teeth : Option Int) (t : Int) : Int := match teeth with
  | none => t
  | some n => t % n
/-- whether nothing was shown at the push k -/
def zeroAt (xs : List Sh) (k : Nat) : Bool := match xs[k]? with
  | some x => decide (x.2 = 0)
  | none => true
def twoF (pl : Int → Int) (xs : List Sh) : Nat → List (Option Int) → List (Int × Nat) → Option (Nat × Nat)
  | _, [], _ => none
  | k, none :: ps, met => twoF pl xs (k + 1) ps met
  | k, some t :: ps, met => match aGet met (pl t) with
    | some o => if zeroAt xs o = zeroAt xs k then twoF pl xs (k + 1) ps met else some (o, k)
    | none => twoF pl xs (k + 1) ps (met ++ [(pl t, k)])
def MetOk (pl : Int → Int) (xs : List Sh) (P : List (Option Int)) (k : Nat) (met : List (Int × Nat)) : Prop :=
  (∀ p o, aGet met p = some o → o < k ∧ ∃ t, P[o]? = some (some t) ∧ pl t = p) ∧ ∀ i t, i < k → P[i]? = some (some t) → ∃ o, aGet met (pl t) = some o ∧ zeroAt xs o = zeroAt xs i
def TwoOk (pl : Int → Int) (xs : List Sh) (P : List (Option Int)) (a b : Nat) : Prop := a < b ∧ b < P.length ∧ zeroAt xs a ≠ zeroAt xs b ∧ ∃ t u, P[a]? = some (some t) ∧ P[b]? = some (some u) ∧ pl t = pl u
def NoTwo (pl : Int → Int) (xs : List Sh) (P : List (Option Int)) : Prop := ∀ i j t u, P[i]? = some (some t) → P[j]? = some (some u) → pl t = pl u → zeroAt xs i = zeroAt xs j
theorem aGet_snoc {β : Type} {M : List (Int × β)} {a p : Int} {b : β} (h : aGet M a = none) : aGet (M ++ [(a, b)]) p = if p = a then some b else aGet M p := by
  by_cases hp : p = a
  · subst hp
    rw [if_pos rfl]
    unfold aGet at h ⊢
    rw [Option.map_eq_none_iff] at h
    rw [List.find?_append, h]
    simp
  · rw [if_neg hp]
    unfold aGet
    rw [List.find?_append]
    have : List.find? (fun e : Int × β => decide (e.1 = p)) [(a, b)] = none := by
      rw [List.find?_cons_of_neg (by simp; exact fun q => hp q.symm)]; rfl
    rw [this, Option.or_none]
theorem twoF_ok {pl : Int → Int} {xs : List Sh} {P : List (Option Int)} : ∀ (ps : List (Option Int)) (k : Nat) (met : List (Int × Nat)), P.drop k = ps → MetOk pl xs P k met → (∀ a b, twoF pl xs k ps met = some (a, b) → TwoOk pl xs P a b) ∧ (twoF pl xs k ps met = none → NoTwo pl xs P)
  | [], k, met, hd, hm => by
    refine ⟨(fun a b h => by cases h), fun _ i j t u hi hj hp => ?_⟩
    have hk : P.length ≤ k := List.drop_eq_nil_iff.mp hd
    have h1 := (List.getElem?_eq_some_iff.mp hi).1
    have h2 := (List.getElem?_eq_some_iff.mp hj).1
    obtain ⟨o, e1, z1⟩ := hm.2 i t (by omega) hi
    obtain ⟨o', e2, z2⟩ := hm.2 j u (by omega) hj
    rw [hp, e2] at e1
    cases e1
    rw [← z1, ← z2]
  | none :: ps, k, met, hd, hm => by
    have hk : P[k]? = some none := by
      have := congrArg (fun l => l[0]?) hd
      simpa using this
    have hd' : P.drop (k + 1) = ps := by
      have := congrArg List.tail hd
      simpa using this
    unfold twoF
    refine twoF_ok ps (k + 1) met hd' ⟨fun p o h => ?_, fun i t hi h => ?_⟩
    · obtain ⟨q1, q2⟩ := hm.1 p o h
      exact ⟨by omega, q2⟩
    · by_cases hik : i = k
      · subst hik; rw [hk] at h; cases h
      · exact hm.2 i t (by omega) h
  | some t :: ps, k, met, hd, hm => by
    have hk : P[k]? = some (some t) := by
      have := congrArg (fun l => l[0]?) hd
      simpa using this
    have hkl := (List.getElem?_eq_some_iff.mp hk).1
    have hd' : P.drop (k + 1) = ps := by
      have := congrArg List.tail hd
      simpa using this
    unfold twoF
    cases hg : aGet met (pl t) with
    | some o =>
      dsimp only
      obtain ⟨q1, u, q2, q3⟩ := hm.1 _ _ hg
      by_cases hz : zeroAt xs o = zeroAt xs k
      · rw [if_pos hz]
        refine twoF_ok ps (k + 1) met hd' ⟨fun p o h => ?_, fun i t' hi h => ?_⟩
        · obtain ⟨q1, q2⟩ := hm.1 p o h
          exact ⟨by omega, q2⟩
        · by_cases hik : i = k
          · subst hik; rw [hk] at h; cases h
            exact ⟨o, hg, hz⟩
          · exact hm.2 i t' (by omega) h
      · rw [if_neg hz]
        refine ⟨fun a b h => ?_, fun h => by cases h⟩
        cases h
        exact ⟨q1, hkl, hz, u, t, q2, hk, q3⟩
    | none =>
      dsimp only
      refine twoF_ok ps (k + 1) _ hd' ⟨fun p o h => ?_, fun i t' hi h => ?_⟩
      · rw [aGet_snoc hg] at h
        split at h
        · rename_i hp
          cases h
          exact ⟨by omega, t, hk, hp.symm⟩
        · obtain ⟨q1, q2⟩ := hm.1 p o h
          exact ⟨by omega, q2⟩
      · by_cases hik : i = k
        · subst hik; rw [hk] at h; cases h
          exact ⟨i, by rw [aGet_snoc hg, if_pos rfl], rfl⟩
        · obtain ⟨o, e1, e2⟩ := hm.2 i t' (by omega) h
          refine ⟨o, ?_, e2⟩
          rw [aGet_snoc hg, if_neg]
          · exact e1
          · intro q
            rw [q, hg] at e1; cases e1
def firstTwo (xs : List Sh) (P : List (Option Int)) (teeth : Option Int) : Option (Nat × Nat) := twoF (placeF teeth) xs 0 P []
theorem firstTwo_ok {xs : List Sh} {P : List (Option Int)} {teeth : Option Int} : (∀ a b, firstTwo xs P teeth = some (a, b) → TwoOk (placeF teeth) xs P a b) ∧ (firstTwo xs P teeth = none → NoTwo (placeF teeth) xs P) :=
  twoF_ok P 0 [] rfl ⟨(fun p o h => by cases h), fun i t h => by omega⟩
/-! ### the bars -/
def barsF (xs : List Sh) (P : List (Option Int)) : Nat → List (Nat × Nat) → List (Nat × Nat)
  | 0, bars => bars
  | f + 1, bars => match firstTwo xs P (some ((bars.length : Int) + 1)) with
    | none => bars
    | some b => barsF xs P f (bars ++ [b])
theorem barsF_ok {xs : List Sh} {P : List (Option Int)} {N : Nat} (hN : firstTwo xs P (some (N : Int)) = none) : ∀ (f : Nat) (bars : List (Nat × Nat)), bars.length + 1 ≤ N → N ≤ bars.length + 1 + f → (∀ (k : Nat) (b : Nat × Nat), bars[k]? = some b → firstTwo xs P (some ((k : Int) + 1)) = some b) →
    firstTwo xs P (some (((barsF xs P f bars).length : Int) + 1)) = none ∧ (barsF xs P f bars).length + 1 ≤ N ∧ ∀ (k : Nat) (b : Nat × Nat), (barsF xs P f bars)[k]? = some b → firstTwo xs P (some ((k : Int) + 1)) = some b
  | 0, bars, h1, h2, h3 => by
    have e : ((bars.length : Int) + 1) = (N : Int) := by omega
    unfold barsF
    exact ⟨by rw [e]; exact hN, h1, h3⟩
  | f + 1, bars, h1, h2, h3 => by
    unfold barsF
    cases hb : firstTwo xs P (some ((bars.length : Int) + 1)) with
    | none => exact ⟨hb, h1, h3⟩
    | some b =>
      dsimp only
      have hne : bars.length + 1 ≠ N := by
        intro e
        have e' : ((bars.length : Int) + 1) = (N : Int) := by omega
        rw [e', hN] at hb
        cases hb
      refine barsF_ok hN f (bars ++ [b]) (by rw [List.length_append, List.length_singleton]; omega) (by rw [List.length_append, List.length_singleton]; omega) fun (k : Nat) c hk => ?_
      by_cases hkl : k < bars.length
      · rw [List.getElem?_append_left hkl] at hk
        exact h3 k c hk
      · have hkb := (List.getElem?_eq_some_iff.mp hk).1
        rw [List.length_append, List.length_singleton] at hkb
        have ek : k = bars.length := by omega
        subst ek
        rw [List.getElem?_append_right (Nat.le_refl _), Nat.sub_self] at hk
        cases hk
        exact hb
/-! ### the marks -/
def marksM (xs : List Sh) (P : List (Option Int)) (teeth : Int) : List (Int × Bool) := (P.zip xs).foldl (fun M p => if p.2.2 = 0 then M else aPut M (p.1.getD 0 % teeth) true) []
def marksF (xs : List Sh) (P : List (Option Int)) (teeth : Int) : List Int := sortI ((marksM xs P teeth).map (·.1))
def smallA (ws : List Int) (xs : List Sh) : Ans :=
  match wrongF 0 ws xs with
  | some k => .none_ k k
  | none => match firstTwo xs (passed ws) none with
    | some b => .none_ b.1 b.2
    | none => .wheel (((barsF xs (passed ws) 100 []).length : Int) + 1) (marksF xs (passed ws) (((barsF xs (passed ws) 100 []).length : Int) + 1)) ((barsF xs (passed ws) 100 []).map fun b => ((b.1 : Int), (b.2 : Int)))
theorem aPut_keys {M : List (Int × Bool)} {k : Int} : ∀ x, x ∈ (aPut M k true).map (·.1) ↔ x ∈ M.map (·.1) ∨ x = k := fun x => by
  unfold aPut
  split
  · rename_i h
    have hm := aGet_isSome.mp h
    rw [List.map_map]
    have : (fun e : Int × Bool => e.1) ∘ (fun e : Int × Bool => if e.1 = k then (e.1, true) else e) = fun e => e.1 := by
      funext e
      simp only [Function.comp]
      split <;> rfl
    rw [this]
    exact ⟨.inl, fun h => h.elim id fun e => e ▸ hm⟩
  · rw [List.map_append, List.mem_append]
    simp
theorem aPut_nodup {M : List (Int × Bool)} {k : Int} (h : (M.map (·.1)).Nodup) : ((aPut M k true).map (·.1)).Nodup := by
  unfold aPut
  split
  · rw [List.map_map]
    have : (fun e : Int × Bool => e.1) ∘ (fun e : Int × Bool => if e.1 = k then (e.1, true) else e) = fun e => e.1 := by
      funext e
      simp only [Function.comp]
      split <;> rfl
    rw [this]; exact h
  · rename_i hn
    have hn' : k ∉ M.map (·.1) := fun q => hn (aGet_isSome.mpr q)
    rw [List.map_append, List.nodup_append]
    refine ⟨h, by simp, fun a ha b hb => ?_⟩
    simp only [List.map_cons, List.map_nil, List.mem_singleton] at hb
    subst hb
    exact fun q => hn' (q ▸ ha)
theorem marksM_ok (teeth : Int) : ∀ (L : List (Option Int × Sh)) (M : List (Int × Bool)), (M.map (·.1)).Nodup →
    (((L.foldl (fun M p => if p.2.2 = 0 then M else aPut M (p.1.getD 0 % teeth) true) M).map (·.1)).Nodup) ∧ ∀ x, x ∈ (L.foldl (fun M p => if p.2.2 = 0 then M else aPut M (p.1.getD 0 % teeth) true) M).map (·.1) ↔ x ∈ M.map (·.1) ∨ ∃ p ∈ L, p.2.2 ≠ 0 ∧ x = p.1.getD 0 % teeth
  | [], M, h => ⟨h, fun x => by simp⟩
  | p :: L, M, h => by
    rw [List.foldl_cons]
    by_cases hp : p.2.2 = 0
    · rw [if_pos hp]
      obtain ⟨h1, h2⟩ := marksM_ok teeth L M h
      refine ⟨h1, fun x => (h2 x).trans ?_⟩
      constructor
      · rintro (q | ⟨r, hr, q⟩)
        · exact .inl q
        · exact .inr ⟨r, List.mem_cons_of_mem _ hr, q⟩
      · rintro (q | ⟨r, hr, q⟩)
        · exact .inl q
        · rcases List.mem_cons.mp hr with rfl | hr
          · exact absurd hp q.1
          · exact .inr ⟨r, hr, q⟩
    · rw [if_neg hp]
      obtain ⟨h1, h2⟩ := marksM_ok teeth L (aPut M (p.1.getD 0 % teeth) true) (aPut_nodup h)
      refine ⟨h1, fun x => (h2 x).trans ?_⟩
      rw [aPut_keys]
      constructor
      · rintro ((q | q) | ⟨r, hr, q⟩)
        · exact .inl q
        · exact .inr ⟨p, List.mem_cons_self, hp, q⟩
        · exact .inr ⟨r, List.mem_cons_of_mem _ hr, q⟩
      · rintro (q | ⟨r, hr, q⟩)
        · exact .inl (.inl q)
        · rcases List.mem_cons.mp hr with rfl | hr
          · exact .inl (.inr q.2)
          · exact .inr ⟨r, hr, q⟩
end Ct

-- W10
set_option Elab.async false
set_option linter.all false
set_option maxRecDepth 100000
set_option maxHeartbeats 1000000
/-! W10: makes.py: what is shown, what passes (printed by gen2.py from W10.src). -/
namespace Ct
open PySem PySem.Spec L2
section
variable {P : Program} {w : World} {K : PySem.W.Frag} {mg : Str → Option Value} {base : Heap}
abbrev dShs (xs : List Sh) : PyData := .list (xs.map dSh)
abbrev dInL (ws : List Int) : PyData := .list (ws.map .int)
abbrev dOps (ps : List (Option Int)) : PyData := .list (ps.map dOpt)
def p_is_show_makes (ds : List Sl) (r : PyData) : Prop := ∃ x : Sh, ds = [D (dSh x)] ∧ shOk x ∧ r = .bool true
/-! is_show_makes -/
theorem sc_is_show_makes : FnScope ["thing"] ["thing"] (defScope s_is_show_makes) := ⟨rfl, rfl, rfl, by decide +kernel, rfl, by decide +kernel, by decide +kernel⟩
theorem ok_is_show_makes {f f_is_whole f_is_way : Addr} {fd : FuncData} (F : FnP K "is_show" s_is_show_makes f fd) (hm : mg "is_show_makes" = some (.ref f)) (B : Frs mg) (h_is_whole : Has P w K mg base 1 "is_whole" ["thing"] p_is_whole f_is_whole) (h_is_way : Has P w K mg base 1 "is_way" ["thing"] p_is_way f_is_way)  : Has P w K mg base 2 "is_show_makes" ["thing"] p_is_show_makes f := by
  refine has_of F hm sc_is_show_makes (fun ds r h => by obtain ⟨x, rfl, hx, rfl⟩ := h; rfl) (fun _ _ _ _ _ _ us hl => match us, hl with | [_], _ => rfl) fun cdv A outer s H E ds r hr hp => ?_
  have hu := hr.u100
  obtain ⟨x, rfl, hx, rfl⟩ := hp
  apply ends_rt
  obtain ⟨h1, h2⟩ := hx
  refine b_no (ptd_w (w_orF (ptd_not (ptd_val (pd_isTuple B (pd_var 0 rfl)))) rfl (w_orF (ptd_cmp hu (pd_len B.len (pd_var 0 rfl) .tup) pd_int (.ne Ly.shp Ly.shp)) rfl (w_or1 (ptd_not (ptd_val (pd_call h_is_way (hr.mono (by decide)) (pad_cons (pd_ix (pd_var 0 rfl) pd_int (.tup rfl)) pad_nil) ⟨x.1, rfl, h1, rfl⟩))))))) rfl ?_
  refine b_ret (e_andT (pd_call h_is_whole (hr.mono (by decide)) (pad_cons (pd_ix (pd_var 0 rfl) pd_int (.tup rfl)) pad_nil) ⟨x.2, rfl, rfl⟩) rfl (e_one (PED.eq (pd_chain hu (pd_bin pd_int pd_int .subI) (pd_ix (pd_var 0 rfl) pd_int (.tup rfl)) pd_int .le .le) ?_))) rfl
  rcases h2 with h | h | h <;> rw [h] <;> rfl
def p_check_shows (ds : List Sl) (r : PyData) : Prop := ∃ xs : List Sh, ds = [D (dShs xs)] ∧ (∀ x ∈ xs, shOk x) ∧ xs.length ≤ 1000 ∧ r = .none
/-! check_shows -/
theorem sc_check_shows : FnScope ["shows", "show"] ["shows"] (defScope s_check_shows) := ⟨rfl, rfl, rfl, by decide +kernel, rfl, by decide +kernel, by decide +kernel⟩
theorem ok_check_shows {f f_is_show_makes : Addr} {fd : FuncData} (F : FnP K "check_shows" s_check_shows f fd) (hm : mg "check_shows" = some (.ref f)) (B : Frs mg) (h_is_show_makes : Has P w K mg base 2 "is_show_makes" ["thing"] p_is_show_makes f_is_show_makes)  : Has P w K mg base 3 "check_shows" ["shows"] p_check_shows f := by
  refine has_of F hm sc_check_shows (fun ds r h => by obtain ⟨xs, rfl, hx0, hl, rfl⟩ := h; rfl) (fun _ _ _ _ _ _ us hl => match us, hl with | [_], _ => rfl) fun cdv A outer s H E ds r hr hp => ?_
  have hu := hr.u100
  obtain ⟨xs, rfl, hx0, hl, rfl⟩ := hp
  apply ends_nx
  exact b_no (ptd_w (w_orF (ptd_not (ptd_val (pd_isList B (pd_var 0 rfl)))) rfl (w_or1 (ptd_not (ptd_val (pd_allT [("show", 1)] xs dSh rfl B.all sc_check_shows.nd (pid_list (pd_var 0 rfl)) (blkOk_by (N := ["shows", "show"]) (own := [("show", 1)]) (sc := defScope s_check_shows) (by decide +kernel)) (fun x hx => ⟨_, fun _ _ _ _ _ => (pgw_name 1 sc_check_shows.nd), fun _ _ _ _ _ => PED.eq (pd_call h_is_show_makes (hr.mono (by decide)) (pad_cons (pd_var 1 rfl) pad_nil) ⟨x, rfl, hx0 x hx, rfl⟩) rfl, rfl⟩) (small_size (by omega)))))))) rfl pbd_end
def p_own_ways (ds : List Sl) (r : PyData) : Prop := ∃ xs : List Sh, ds = [D (dShs xs)] ∧ xs.length ≤ 1000 ∧ r = dInL (xs.map (·.1))
/-! own_ways -/
theorem sc_own_ways : FnScope ["shows", "way", "shown"] ["shows"] (defScope s_own_ways) := ⟨rfl, rfl, rfl, by decide +kernel, rfl, by decide +kernel, by decide +kernel⟩
theorem ok_own_ways {f  : Addr} {fd : FuncData} (F : FnP K "own_ways" s_own_ways f fd) (hm : mg "own_ways" = some (.ref f)) (B : Frs mg)   : Has P w K mg base 1 "own_ways" ["shows"] p_own_ways f := by
  refine has_of F hm sc_own_ways (fun ds r h => by obtain ⟨xs, rfl, hl, rfl⟩ := h; rfl) (fun _ _ _ _ _ _ us hl => match us, hl with | [_], _ => rfl) fun cdv A outer s H E ds r hr hp => ?_
  have hu := hr.u100
  obtain ⟨xs, rfl, hl, rfl⟩ := hp
  apply ends_rt
  refine b_ret (pd_lcA [("way", 1), ("shown", 2)] xs dSh (fun x => .int x.1) rfl sc_own_ways.nd (pid_list (pd_var 0 rfl)) (blkOk_by (N := ["shows", "way", "shown"]) (own := [("way", 1), ("shown", 2)]) (sc := defScope s_own_ways) (by decide +kernel)) (fun x hx => ⟨_, fun _ _ _ _ _ => (pgw_tup rfl (pgws_cons (pgw_name 1 sc_own_ways.nd) (pgws_cons (pgw_name 2 sc_own_ways.nd) pgws_nil))), fun _ _ _ _ _ => PED.eq (pd_var 1 rfl) rfl, rfl⟩) (small_size (by omega))) ?_
  show _ = PyData.list (List.map PyData.int (List.map _ xs))
  rw [List.map_map]
  rfl
def behindF (T : List Part) : List Int → List Sh → List Int
  | _, [] => []
  | s, x :: xs => (pushN T s 0 x.1 1).2 :: behindF T (pushN T s 0 x.1 1).1 xs
def behindS (T : List Part) (s : List Int) (xs : List Sh) : List Int := xs.foldl (fun s x => (pushN T s 0 x.1 1).1) s
theorem behindF_app (T : List Part) : ∀ (xs ys : List Sh) (s : List Int), behindF T s (xs ++ ys) = behindF T s xs ++ behindF T (behindS T s xs) ys
  | [], _, _ => rfl
  | x :: xs, ys, s => congrArg (_ :: ·) (behindF_app T xs ys _)
theorem behindF_len (T : List Part) : ∀ (xs : List Sh) (s : List Int), (behindF T s xs).length = xs.length
  | [], _ => rfl
  | x :: xs, s => congrArg Nat.succ (behindF_len T xs _)
theorem behindS_ok {T : List Part} (hT : ∀ p ∈ T, p.ok) : ∀ {xs : List Sh} {s : List Int}, standOk T s → (∀ x ∈ xs, shOk x) → standOk T (behindS T s xs)
  | [], _, hs, _ => hs
  | x :: xs, s, hs, h => behindS_ok hT (xs := xs) (pushN_ok hT hs (h x List.mem_cons_self).1 (by decide)) fun y hy => h y (List.mem_cons_of_mem _ hy)
def p_ways_behind (ds : List Sl) (r : PyData) : Prop := ∃ (T : List Part) (s : List Int) (xs : List Sh), ds = [D (dTrain T), D (dStand s), D (dShs xs)] ∧ trainOk T ∧ standOk T s ∧ (∀ x ∈ xs, shOk x) ∧ xs.length ≤ 1000 ∧ r = dInL (behindF T s xs)
/-! ways_behind -/
theorem sc_ways_behind : FnScope ["train", "stand", "shows", "told", "way", "shown", "given"] ["train", "stand", "shows"] (defScope s_ways_behind) := ⟨rfl, rfl, rfl, by decide +kernel, rfl, by decide +kernel, by decide +kernel⟩
theorem ok_ways_behind {f f_pushed : Addr} {fd : FuncData} (F : FnP K "ways_behind" s_ways_behind f fd) (hm : mg "ways_behind" = some (.ref f)) (B : Frs mg) (h_pushed : Has P w K mg base 4 "pushed" ["train", "stand", "i", "way"] p_pushed f_pushed)  : Has P w K mg base 5 "ways_behind" ["train", "stand", "shows"] p_ways_behind f := by
  refine has_of F hm sc_ways_behind (fun ds r h => by obtain ⟨T, s, xs, rfl, hT, hs, hx0, hl, rfl⟩ := h; rfl) (fun _ _ _ _ _ _ us hl => match us, hl with | [_, _, _], _ => rfl) fun cdv A outer s H E ds r hr hp => ?_
  have hu := hr.u100
  obtain ⟨T, s, xs, rfl, hT, hs, hx0, hl, rfl⟩ := hp
  apply ends_rt
  have hsz : sizeLine = 2 ^ 24 := rfl
  refine pbd_own 3 sc_ways_behind.nd (ds := []) (pn_lst (ps := []) pad_nil) ?_
  refine pbd_for rfl (pid_list (pd_var 2 rfl)) (fun k δ => ∃ s1 s2 s3 : Sl, δ = [D (dTrain T), D (dStand (behindS T s (xs.take k))), D (dShs xs), .lst ((behindF T s (xs.take k)).map .int), s1, s2, s3]) ?_ (fun k d δa hd hI => ?_) (fun δa hI => ?_)
  · exact ⟨.any, .any, .any, rfl⟩
  · obtain ⟨s1, s2, s3, rfl⟩ := hI
    rw [List.getElem?_map] at hd
    obtain ⟨x, hx, rfl⟩ := Option.map_eq_some_iff.mp hd
    have hxo := hx0 x (List.mem_of_getElem? hx)
    have hso := behindS_ok hT.2.2 (xs := xs.take k) hs fun y hy => hx0 y (List.mem_of_mem_take hy)
    have hbl := behindF_len T (xs.take k) s
    rw [List.length_take] at hbl
    refine ⟨_, .nx [D (dTrain T), D (dStand (behindS T s (xs.take (k + 1)))), D (dShs xs), .lst ((behindF T s (xs.take (k + 1))).map .int), .any, .any, .any], (pgd_tup rfl (pgds_cons (pgd_name 4 sc_ways_behind.nd) (pgds_cons (pgd_name 5 sc_ways_behind.nd) pgds_nil))), ?_, .any, .any, .any, rfl⟩
    refine pbd_asg (pd_call h_pushed (hr.mono (by decide)) (pad_cons (pd_var 0 rfl) (pad_cons (pd_var 1 rfl) (pad_cons pd_int (pad_cons (pd_var 4 rfl) pad_nil)))) ⟨T, behindS T s (xs.take k), 0, x.1, rfl, hT, hso.len, Nat.zero_le _, hxo.1, rfl⟩) (pgd_tup rfl (pgds_cons (pgd_name 1 sc_ways_behind.nd) (pgds_cons (pgd_name 6 sc_ways_behind.nd) pgds_nil))) ?_
    refine pbd_append 3 rfl (pd_var 6 rfl) rfl (by rw [List.length_map]; omega) (pbd_wipe [4, 5, 6] (pbd_nx ?_))
    rw [List.take_add_one, hx, behindF_app, List.map_append]
    have e : behindS T s (xs.take k ++ (some x).toList) = (pushN T (behindS T s (xs.take k)) 0 x.1 1).1 := by
      unfold behindS
      rw [List.foldl_append]
      rfl
    rw [e]
    rfl
  · obtain ⟨s1, s2, s3, rfl⟩ := hI
    rw [List.length_map, List.take_length]
    refine pbd_freeze 3 rfl ?_
    exact b_ret (pd_var 3 rfl) rfl
theorem passF_app : ∀ (a b : List Int) (h : Int), passF h (a ++ b) = passF h a ++ passF (h + a.sum) b
  | [], b, h => by simp [passF]
  | w :: a, b, h => by
    show _ :: passF (h + w) (a ++ b) = _ :: (passF (h + w) a ++ _)
    rw [passF_app a b, List.sum_cons, Int.add_assoc]
def p_teeth_passed (ds : List Sl) (r : PyData) : Prop := ∃ ws : List Int, ds = [D (dInL ws)] ∧ ws.length ≤ 1000 ∧ r = dOps (passed ws)
/-! teeth_passed -/
theorem sc_teeth_passed : FnScope ["ways", "here", "told", "way", "tooth"] ["ways"] (defScope s_teeth_passed) := ⟨rfl, rfl, rfl, by decide +kernel, rfl, by decide +kernel, by decide +kernel⟩
theorem ok_teeth_passed {f  : Addr} {fd : FuncData} (F : FnP K "teeth_passed" s_teeth_passed f fd) (hm : mg "teeth_passed" = some (.ref f)) (B : Frs mg)   : Has P w K mg base 1 "teeth_passed" ["ways"] p_teeth_passed f := by
  refine has_of F hm sc_teeth_passed (fun ds r h => by obtain ⟨ws, rfl, hl, rfl⟩ := h; rfl) (fun _ _ _ _ _ _ us hl => match us, hl with | [_], _ => rfl) fun cdv A outer s H E ds r hr hp => ?_
  have hu := hr.u100
  obtain ⟨ws, rfl, hl, rfl⟩ := hp
  apply ends_rt
  have hsz : sizeLine = 2 ^ 24 := rfl
  refine pbd_set 1 sc_teeth_passed.nd pd_int ?_
  refine pbd_own 2 sc_teeth_passed.nd (ds := []) (pn_lst (ps := []) pad_nil) ?_
  refine pbd_for rfl (pid_list (pd_var 0 rfl)) (fun k δ => ∃ s1 s2 : Sl, δ = [D (dInL ws), D (.int (ws.take k).sum), .lst ((passed (ws.take k)).map dOpt), s1, s2]) ?_ (fun k d δa hd hI => ?_) (fun δa hI => ?_)
  · exact ⟨.any, .any, rfl⟩
  · obtain ⟨s1, s2, rfl⟩ := hI
    rw [List.getElem?_map] at hd
    obtain ⟨x, hx, rfl⟩ := Option.map_eq_some_iff.mp hd
    have hbl := passF_len 0 (ws.take k)
    rw [List.length_take] at hbl
    have hpl : (passed (ws.take k)).length ≤ 1000 := by unfold passed; omega
    have e1 : passed (ws.take (k + 1)) = passed (ws.take k) ++ [if x = 0 then none else some ((ws.take k).sum + if x = 1 then 1 else 0)] := by
      unfold passed
      rw [List.take_add_one, hx]
      show passF 0 (ws.take k ++ [x]) = _
      rw [passF_app, Int.zero_add]
      rfl
    have e2 : (ws.take (k + 1)).sum = (ws.take k).sum + x := by
      rw [List.take_add_one, hx]
      show (ws.take k ++ [x]).sum = _
      simp
    refine ⟨_, .nx [D (dInL ws), D (.int (ws.take (k + 1)).sum), .lst ((passed (ws.take (k + 1))).map dOpt), .any, .any], (pgd_name 3 sc_teeth_passed.nd), ?_, .any, .any, rfl⟩
    rw [e1, e2]
    refine pbd_set 4 sc_teeth_passed.nd (s := D .none) pd_non ?_
    by_cases hw : x = 0
    · subst hw
      refine b_no (ptd_cmp hu (pd_var 3 rfl) pd_int (.ne Ly.shp Ly.shp)) (by rw [eqv_int]; rfl) ?_
      refine pbd_append (d := dOpt none) 2 rfl (pd_var 4 rfl) rfl (by rw [List.length_map]; omega) ?_
      refine pbd_addI 1 sc_teeth_passed.nd rfl (pd_var 3 rfl) (pbd_wipe [3, 4] (pbd_nx ?_))
      rw [List.map_append, if_pos rfl]
      rfl
    · refine b_ifT (ptd_cmp hu (pd_var 3 rfl) pd_int (.ne Ly.shp Ly.shp)) (by rw [eqv_int, decide_eq_false hw]; rfl) ?_
      refine pbd_set 4 sc_teeth_passed.nd (pd_bin (pd_var 1 rfl) (pd_intB B.int (pd_cmp hu (pd_var 3 rfl) pd_int (.eq Ly.shp Ly.shp))) .addI) (pbd_pop ?_)
      refine pbd_append (d := dOpt (some ((ws.take k).sum + if x = 1 then 1 else 0))) 2 rfl (PED.eq (pd_var 4 rfl) ?_) rfl (by rw [List.length_map]; omega) ?_
      · rw [eqv_int]
        simp [dOpt]
      refine pbd_addI 1 sc_teeth_passed.nd rfl (pd_var 3 rfl) (pbd_wipe [3, 4] (pbd_nx ?_))
      rw [List.map_append, if_neg hw]
      rfl
  · obtain ⟨s1, s2, rfl⟩ := hI
    rw [List.length_map, List.take_length]
    refine pbd_freeze 2 rfl ?_
    exact b_ret (pd_var 2 rfl) rfl
def dNatO : Option Nat → PyData
  | none => .none
  | some k => .int k
theorem wrongF_step {ws : List Int} {xs : List Sh} {k : Nat} {w0 : Int} {x : Sh} (hw : ws[k]? = some w0) (hx : xs[k]? = some x) : wrongF k (ws.drop k) (xs.drop k) = if x.2 ≠ 0 ∧ x.2 ≠ w0 then some k else wrongF (k + 1) (ws.drop (k + 1)) (xs.drop (k + 1)) := by
  obtain ⟨h1, e1⟩ := List.getElem?_eq_some_iff.mp hw
  obtain ⟨h2, e2⟩ := List.getElem?_eq_some_iff.mp hx
  rw [List.drop_eq_getElem_cons h1, List.drop_eq_getElem_cons h2, e1, e2, wrongF]
def p_first_wrong (ds : List Sl) (r : PyData) : Prop := ∃ (ws : List Int) (xs : List Sh), ds = [D (dInL ws), D (dShs xs)] ∧ ws.length = xs.length ∧ r = dNatO (wrongF 0 ws xs)
/-! first_wrong -/
theorem sc_first_wrong : FnScope ["ways", "shows", "k", "show"] ["ways", "shows"] (defScope s_first_wrong) := ⟨rfl, rfl, rfl, by decide +kernel, rfl, by decide +kernel, by decide +kernel⟩
theorem ok_first_wrong {f  : Addr} {fd : FuncData} (F : FnP K "first_wrong" s_first_wrong f fd) (hm : mg "first_wrong" = some (.ref f)) (B : Frs mg)   : Has P w K mg base 1 "first_wrong" ["ways", "shows"] p_first_wrong f := by
  refine has_of F hm sc_first_wrong (fun ds r h => by obtain ⟨ws, xs, rfl, hl, rfl⟩ := h; rfl) (fun _ _ _ _ _ _ us hl => match us, hl with | [_, _], _ => rfl) fun cdv A outer s H E ds r hr hp => ?_
  have hu := hr.u100
  obtain ⟨ws, xs, rfl, hl, rfl⟩ := hp
  apply ends_rt
  refine pbd_for rfl (pid_enum B.enumerate (pd_var 1 rfl)) (fun k δ => ∃ s1 s2 : Sl, wrongF k (ws.drop k) (xs.drop k) = wrongF 0 ws xs ∧ δ = [D (dInL ws), D (dShs xs), s1, s2]) ?_ (fun k d δa hd hI => ?_) (fun δa hI => ?_)
  · exact ⟨.any, .any, rfl, rfl⟩
  · obtain ⟨s1, s2, hj, rfl⟩ := hI
    obtain ⟨y, hy, rfl⟩ := numbered_at hd
    rw [List.getElem?_map] at hy
    obtain ⟨x, hx, rfl⟩ := Option.map_eq_some_iff.mp hy
    have hkl := (List.getElem?_eq_some_iff.mp hx).1
    obtain ⟨w0, hw0⟩ : ∃ w0, ws[k]? = some w0 := ⟨ws[k], List.getElem?_eq_getElem (by omega)⟩
    rw [wrongF_step hw0 hx] at hj
    by_cases h1 : x.2 = 0
    · rw [if_neg fun q => q.1 h1] at hj
      refine ⟨_, .nx [D (dInL ws), D (dShs xs), D (.int (k : Nat)), D (dSh x)], (pgd_tup rfl (pgds_cons (pgd_name 2 sc_first_wrong.nd) (pgds_cons (pgd_name 3 sc_first_wrong.nd) pgds_nil))), ?_, _, _, hj, rfl⟩
      exact b_no (ptd_w (w_andF (ptd_cmp hu (pd_ix (pd_var 3 rfl) pd_int (.tup rfl)) pd_int (.ne Ly.shp Ly.shp)) (by rw [eqv_int, decide_eq_true h1]; rfl))) rfl (pbd_nx rfl)
    · by_cases h2 : x.2 = w0
      · rw [if_neg fun q => q.2 h2] at hj
        refine ⟨_, .nx [D (dInL ws), D (dShs xs), D (.int (k : Nat)), D (dSh x)], (pgd_tup rfl (pgds_cons (pgd_name 2 sc_first_wrong.nd) (pgds_cons (pgd_name 3 sc_first_wrong.nd) pgds_nil))), ?_, _, _, hj, rfl⟩
        exact b_no (ptd_w (w_andT (ptd_cmp hu (pd_ix (pd_var 3 rfl) pd_int (.tup rfl)) pd_int (.ne Ly.shp Ly.shp)) (by rw [eqv_int, decide_eq_false h1]; rfl) (w_and1 (ptd_cmp hu (pd_ix (pd_var 3 rfl) pd_int (.tup rfl)) (pd_ix (pd_var 0 rfl) (pd_var 2 rfl) (.lst (atI_map hw0))) (.ne Ly.shp Ly.shp))))) (by rw [eqv_int, decide_eq_true h2]; rfl) (pbd_nx rfl)
      · rw [if_pos ⟨h1, h2⟩] at hj
        refine ⟨_, .rt (.int (k : Nat)) [], (pgd_tup rfl (pgds_cons (pgd_name 2 sc_first_wrong.nd) (pgds_cons (pgd_name 3 sc_first_wrong.nd) pgds_nil))), ?_, by rw [← hj]; rfl⟩
        refine b_ifT (ptd_w (w_andT (ptd_cmp hu (pd_ix (pd_var 3 rfl) pd_int (.tup rfl)) pd_int (.ne Ly.shp Ly.shp)) (by rw [eqv_int, decide_eq_false h1]; rfl) (w_and1 (ptd_cmp hu (pd_ix (pd_var 3 rfl) pd_int (.tup rfl)) (pd_ix (pd_var 0 rfl) (pd_var 2 rfl) (.lst (atI_map hw0))) (.ne Ly.shp Ly.shp))))) (by rw [eqv_int, decide_eq_false h2]; rfl) ?_
        exact b_ret (pd_var 2 rfl) rfl
  · obtain ⟨s1, s2, hj, rfl⟩ := hI
    have hn : (numbered (xs.map dSh)).length = xs.length := by unfold numbered; rw [List.length_mapIdx, List.length_map]
    rw [hn, List.drop_of_length_le (show ws.length ≤ xs.length by omega), wrongF] at hj
    · rw [← hj]
      exact b_ret pd_non rfl
    · intros
      simp_all
def p_place_of (ds : List Sl) (r : PyData) : Prop := ∃ (t : Int) (n : Option Int), ds = [D (.int t), D (dOpt n)] ∧ (∀ z, n = some z → 0 < z) ∧ r = .int (placeF n t)
/-! place_of -/
theorem sc_place_of : FnScope ["tooth", "teeth"] ["tooth", "teeth"] (defScope s_place_of) := ⟨rfl, rfl, rfl, by decide +kernel, rfl, by decide +kernel, by decide +kernel⟩
theorem ok_place_of {f  : Addr} {fd : FuncData} (F : FnP K "place_of" s_place_of f fd) (hm : mg "place_of" = some (.ref f)) (B : Frs mg)   : Has P w K mg base 1 "place_of" ["tooth", "teeth"] p_place_of f := by
  refine has_of F hm sc_place_of (fun ds r h => by obtain ⟨t, n, rfl, hn, rfl⟩ := h; rfl) (fun _ _ _ _ _ _ us hl => match us, hl with | [_, _], _ => rfl) fun cdv A outer s H E ds r hr hp => ?_
  have hu := hr.u100
  obtain ⟨t, n, rfl, hn, rfl⟩ := hp
  apply ends_rt
  cases n with
  | none =>
    refine b_ifT (ptd_cmp hu (pd_var 1 rfl) pd_non .isN) rfl ?_
    exact b_ret (pd_var 0 rfl) rfl
  | some z =>
    have := hn z rfl
    refine b_no (ptd_cmp hu (pd_var 1 rfl) pd_non .isN) rfl ?_
    exact b_ret (pd_bin (pd_var 0 rfl) (pd_var 1 rfl) (.modI (by omega))) rfl
end
end Ct

-- W11
set_option Elab.async false
set_option linter.all false
set_option maxRecDepth 100000
set_option maxHeartbeats 1000000
/-! W11: makes.py: two pushes at one place, marks, the search (printed by gen2.py from W11.src). -/
namespace Ct
open PySem PySem.Spec L2
theorem eqv_boolB (a b : Bool) : PyData.eqv (.bool a) (.bool b) = (a == b) := by
  cases a <;> cases b <;> simp [PyData.eqv]
def dvN (o : Nat) : PyData := .int o
def dTwo : Option (Nat × Nat) → PyData
  | none => .none
  | some b => .tuple [.int b.1, .int b.2]
theorem zeroAt_of {xs : List Sh} {k : Nat} {x : Sh} (h : xs[k]? = some x) : zeroAt xs k = decide (x.2 = 0) := by unfold zeroAt; rw [h]
section
variable {P : Program} {w : World} {K : PySem.W.Frag} {mg : Str → Option Value} {base : Heap}
def p_first_two (ds : List Sl) (r : PyData) : Prop := ∃ (ps : List (Option Int)) (xs : List Sh) (n : Option Int), ds = [D (dOps ps), D (dShs xs), D (dOpt n)] ∧ ps.length = xs.length ∧ xs.length ≤ 1000 ∧ (∀ z, n = some z → 0 < z) ∧ r = dTwo (firstTwo xs ps n)
/-! first_two -/
theorem sc_first_two : FnScope ["passed", "shows", "teeth", "met", "k", "tooth", "one"] ["passed", "shows", "teeth"] (defScope s_first_two) := ⟨rfl, rfl, rfl, by decide +kernel, rfl, by decide +kernel, by decide +kernel⟩
theorem ok_first_two {f f_place_of : Addr} {fd : FuncData} (F : FnP K "first_two" s_first_two f fd) (hm : mg "first_two" = some (.ref f)) (B : Frs mg) (h_place_of : Has P w K mg base 1 "place_of" ["tooth", "teeth"] p_place_of f_place_of)  : Has P w K mg base 2 "first_two" ["passed", "shows", "teeth"] p_first_two f := by
  refine has_of F hm sc_first_two (fun ds r h => by obtain ⟨ps, xs, n, rfl, hl, hxl, hn, rfl⟩ := h; rfl) (fun _ _ _ _ _ _ us hl => match us, hl with | [_, _, _], _ => rfl) fun cdv A outer s H E ds r hr hp => ?_
  have hu := hr.u100
  obtain ⟨ps, xs, n, rfl, hl, hxl, hn, rfl⟩ := hp
  apply ends_rt
  have hsz : sizeLine = 2 ^ 24 := rfl
  have hnl : (numbered (ps.map dOpt)).length = ps.length := by unfold numbered; rw [List.length_mapIdx, List.length_map]
  refine pbd_newZ 3 sc_first_two.nd ?_
  refine pbd_for rfl (pid_enum B.enumerate (pd_var 0 rfl)) (fun k δ => ∃ (met : List (Int × Nat)) (s1 s2 s3 : Sl), twoF (placeF n) xs k (ps.drop k) met = firstTwo xs ps n ∧ met.length ≤ k ∧ (∀ p o, aGet met p = some o → o < k) ∧ δ = [D (dOps ps), D (dShs xs), D (dOpt n), .dki (dEntZ dvN met), s1, s2, s3]) ?_ (fun k d δa hd hI => ?_) (fun δa hI => ?_)
  · exact ⟨[], .any, .any, .any, rfl, Nat.zero_le _, (fun p o h => by cases h), rfl⟩
  · obtain ⟨met, s1, s2, s3, hj, hml, hmo, rfl⟩ := hI
    obtain ⟨y, hy, rfl⟩ := numbered_at hd
    rw [List.getElem?_map] at hy
    obtain ⟨p, hp, rfl⟩ := Option.map_eq_some_iff.mp hy
    obtain ⟨hkl, ek⟩ := List.getElem?_eq_some_iff.mp hp
    rw [List.drop_eq_getElem_cons hkl, ek] at hj
    have hxk : xs[k]? = some (xs[k]'(by omega)) := List.getElem?_eq_getElem (by omega)
    generalize xs[k]'(by omega) = x at hxk
    cases p with
    | none =>
      rw [twoF] at hj
      refine ⟨_, .nx [D (dOps ps), D (dShs xs), D (dOpt n), .dki (dEntZ dvN met), D (.int (k : Nat)), D .none, s3], (pgd_tup rfl (pgds_cons (pgd_name 4 sc_first_two.nd) (pgds_cons (pgd_name 5 sc_first_two.nd) pgds_nil))), ?_, met, _, _, _, hj, by omega, (fun p o h => by have := hmo p o h; omega), rfl⟩
      exact b_no (ptd_cmp hu (pd_var 5 rfl) pd_non .notN) rfl (pbd_nx rfl)
    | some t =>
      rw [twoF] at hj
      have hcall : p_place_of [D (.int t), D (dOpt n)] (.int (placeF n t)) := ⟨t, n, rfl, hn, rfl⟩
      cases hg : aGet met (placeF n t) with
      | some o' =>
        rw [hg] at hj
        dsimp only at hj
        have hok := hmo _ _ hg
        have hxo : xs[o']? = some (xs[o']'(by omega)) := List.getElem?_eq_getElem (by omega)
        generalize xs[o']'(by omega) = y at hxo
        rw [zeroAt_of hxo, zeroAt_of hxk] at hj
        have head : ∀ {bs : List (List Stmt)} {oo : Out}, True := trivial
        by_cases hz : decide (y.2 = 0) = decide (x.2 = 0)
        · rw [if_pos hz] at hj
          refine ⟨_, .nx [D (dOps ps), D (dShs xs), D (dOpt n), .dki (dEntZ dvN met), D (.int (k : Nat)), D (.int t), D (.int o')], (pgd_tup rfl (pgds_cons (pgd_name 4 sc_first_two.nd) (pgds_cons (pgd_name 5 sc_first_two.nd) pgds_nil))), ?_, met, _, _, _, hj, by omega, (fun p o h => by have := hmo p o h; omega), rfl⟩
          refine b_ifT (ptd_cmp hu (pd_var 5 rfl) pd_non .notN) rfl ?_
          refine pbd_set 6 sc_first_two.nd (s := D (.int o')) (pd_setdO (dv := dvN) (v := k) 3 rfl (pd_call h_place_of (hr.mono (by decide)) (pad_cons (pd_var 5 rfl) (pad_cons (pd_var 2 rfl) pad_nil)) hcall) (pd_var 4 rfl) (by omega) hg) ?_
          refine b_no (ptd_cmp hu (pd_cmp hu (pd_ix (pd_ix (pd_var 1 rfl) (pd_var 6 rfl) (.lst (atI_map hxo))) pd_int (.tup rfl)) pd_int (.eq Ly.shp Ly.shp)) (pd_cmp hu (pd_ix (pd_ix (pd_var 1 rfl) (pd_var 4 rfl) (.lst (atI_map hxk))) pd_int (.tup rfl)) pd_int (.eq Ly.shp Ly.shp)) (.ne Ly.shp Ly.shp)) ?_ (pbd_pop (pbd_nx rfl))
          rw [eqv_boolB, eqv_int, eqv_int, hz]
          simp
        · rw [if_neg hz] at hj
          refine ⟨_, .rt (.tuple [.int o', .int (k : Nat)]) [], (pgd_tup rfl (pgds_cons (pgd_name 4 sc_first_two.nd) (pgds_cons (pgd_name 5 sc_first_two.nd) pgds_nil))), ?_, by rw [← hj]; rfl⟩
          refine b_ifT (ptd_cmp hu (pd_var 5 rfl) pd_non .notN) rfl ?_
          refine pbd_set 6 sc_first_two.nd (s := D (.int o')) (pd_setdO (dv := dvN) (v := k) 3 rfl (pd_call h_place_of (hr.mono (by decide)) (pad_cons (pd_var 5 rfl) (pad_cons (pd_var 2 rfl) pad_nil)) hcall) (pd_var 4 rfl) (by omega) hg) ?_
          refine b_ifT (ptd_cmp hu (pd_cmp hu (pd_ix (pd_ix (pd_var 1 rfl) (pd_var 6 rfl) (.lst (atI_map hxo))) pd_int (.tup rfl)) pd_int (.eq Ly.shp Ly.shp)) (pd_cmp hu (pd_ix (pd_ix (pd_var 1 rfl) (pd_var 4 rfl) (.lst (atI_map hxk))) pd_int (.tup rfl)) pd_int (.eq Ly.shp Ly.shp)) (.ne Ly.shp Ly.shp)) ?_ (b_ret (pd_tup (ps := [_, _]) (pad_cons (pd_var 6 rfl) (pad_cons (pd_var 4 rfl) pad_nil))) rfl)
          rw [eqv_boolB, eqv_int, eqv_int]
          simpa using hz
      | none =>
        rw [hg] at hj
        dsimp only at hj
        refine ⟨_, .nx [D (dOps ps), D (dShs xs), D (dOpt n), .dki (dEntZ dvN (met ++ [(placeF n t, k)])), D (.int (k : Nat)), D (.int t), D (.int (k : Nat))], (pgd_tup rfl (pgds_cons (pgd_name 4 sc_first_two.nd) (pgds_cons (pgd_name 5 sc_first_two.nd) pgds_nil))), ?_, met ++ [(placeF n t, k)], _, _, _, hj, by rw [List.length_append, List.length_singleton]; omega, (fun p o h => by
          rw [aGet_snoc hg] at h
          split at h
          · cases h; omega
          · have := hmo p o h; omega), rfl⟩
        refine b_ifT (ptd_cmp hu (pd_var 5 rfl) pd_non .notN) rfl ?_
        refine pbd_set 6 sc_first_two.nd (s := D (.int k)) (pd_setdN (dv := dvN) (v := k) 3 rfl (pd_call h_place_of (hr.mono (by decide)) (pad_cons (pd_var 5 rfl) (pad_cons (pd_var 2 rfl) pad_nil)) hcall) (pd_var 4 rfl) (by omega) hg) ?_
        rw [aPut_new hg]
        refine b_no (ptd_cmp hu (pd_cmp hu (pd_ix (pd_ix (pd_var 1 rfl) (pd_var 6 rfl) (.lst (atI_map hxk))) pd_int (.tup rfl)) pd_int (.eq Ly.shp Ly.shp)) (pd_cmp hu (pd_ix (pd_ix (pd_var 1 rfl) (pd_var 4 rfl) (.lst (atI_map hxk))) pd_int (.tup rfl)) pd_int (.eq Ly.shp Ly.shp)) (.ne Ly.shp Ly.shp)) ?_ (pbd_pop (pbd_nx rfl))
        rw [eqv_boolB, eqv_int]
        simp
  · obtain ⟨met, s1, s2, s3, hj, hml, hmo, rfl⟩ := hI
    rw [hnl, List.drop_length, twoF] at hj
    rw [← hj]
    exact b_ret pd_non rfl
def MarksArg (ps : List (Option Int)) (xs : List Sh) : Prop := ∀ (k : Nat) (x : Sh), xs[k]? = some x → x.2 ≠ 0 → ∃ t, ps[k]? = some (some t)
def p_marks_shown (ds : List Sl) (r : PyData) : Prop := ∃ (ps : List (Option Int)) (xs : List Sh) (n : Int), ds = [D (dOps ps), D (dShs xs), D (.int n)] ∧ ps.length = xs.length ∧ xs.length ≤ 60 ∧ 0 < n ∧ MarksArg ps xs ∧ r = .tuple ((marksF xs ps n).map .int)
def markStep (n : Int) (M : List (Int × Bool)) (p : Option Int × Sh) : List (Int × Bool) := if p.2.2 = 0 then M else aPut M (p.1.getD 0 % n) true
theorem markStep_len (n : Int) : ∀ (L : List (Option Int × Sh)) (M : List (Int × Bool)), (L.foldl (markStep n) M).length ≤ M.length + L.length
  | [], M => Nat.le_refl _
  | p :: L, M => by
    rw [List.foldl_cons]
    have h1 := markStep_len n L (markStep n M p)
    have h2 : (markStep n M p).length ≤ M.length + 1 := by
      unfold markStep aPut
      split
      · omega
      · split
        · rw [List.length_map]; omega
        · rw [List.length_append, List.length_singleton]; omega
    rw [List.length_cons]; omega
/-! marks_shown -/
theorem sc_marks_shown : FnScope ["passed", "shows", "teeth", "told", "tooth", "show"] ["passed", "shows", "teeth"] (defScope s_marks_shown) := ⟨rfl, rfl, rfl, by decide +kernel, rfl, by decide +kernel, by decide +kernel⟩
theorem ok_marks_shown {f  : Addr} {fd : FuncData} (F : FnP K "marks_shown" s_marks_shown f fd) (hm : mg "marks_shown" = some (.ref f)) (B : Frs mg)   : Has P w K mg base 1 "marks_shown" ["passed", "shows", "teeth"] p_marks_shown f := by
  refine has_of F hm sc_marks_shown (fun ds r h => by obtain ⟨ps, xs, n, rfl, hl, hxl, hn, hA, rfl⟩ := h; rfl) (fun _ _ _ _ _ _ us hl => match us, hl with | [_, _, _], _ => rfl) fun cdv A outer s H E ds r hr hp => ?_
  have hu := hr.u100
  obtain ⟨ps, xs, n, rfl, hl, hxl, hn, hA, rfl⟩ := hp
  apply ends_rt
  have hsz : sizeLine = 2 ^ 24 := rfl
  have hzl : (ps.zip xs).length = xs.length := by rw [List.length_zip, hl, Nat.min_self]
  refine pbd_newZ 3 sc_marks_shown.nd ?_
  refine pbd_for rfl (PID.eq (pid_zip B.zip (pd_var 0 rfl) (pd_var 1 rfl) .lst .lst) (zipD_map (f := dOpt) (g := dSh) ps xs)) (fun k δ => ∃ s1 s2 : Sl, δ = [D (dOps ps), D (dShs xs), D (.int n), .dki (dEntZ .bool (((ps.zip xs).take k).foldl (markStep n) [])), s1, s2]) ?_ (fun k d δa hd hI => ?_) (fun δa hI => ?_)
  · exact ⟨.any, .any, rfl⟩
  · obtain ⟨s1, s2, rfl⟩ := hI
    rw [List.getElem?_map] at hd
    obtain ⟨p, hp, rfl⟩ := Option.map_eq_some_iff.mp hd
    obtain ⟨p1, p2⟩ := List.getElem?_zip_eq_some.mp hp
    have hml := markStep_len n ((ps.zip xs).take k) []
    rw [List.length_take, List.length_nil] at hml
    refine ⟨_, .nx [D (dOps ps), D (dShs xs), D (.int n), .dki (dEntZ .bool (((ps.zip xs).take (k + 1)).foldl (markStep n) [])), .any, .any], (pgd_tup rfl (pgds_cons (pgd_name 4 sc_marks_shown.nd) (pgds_cons (pgd_name 5 sc_marks_shown.nd) pgds_nil))), ?_, .any, .any, rfl⟩
    have e1 : ((ps.zip xs).take (k + 1)).foldl (markStep n) [] = markStep n (((ps.zip xs).take k).foldl (markStep n) []) p := by
      rw [List.take_add_one, hp, List.foldl_append]
      rfl
    rw [e1]
    by_cases h0 : p.2.2 = 0
    · unfold markStep
      rw [if_pos h0]
      exact b_no (ptd_cmp hu (pd_ix (pd_var 5 rfl) pd_int (.tup rfl)) pd_int (.ne Ly.shp Ly.shp)) (by rw [eqv_int, decide_eq_true h0]; rfl) (pbd_wipe [4, 5] (pbd_nx rfl))
    · obtain ⟨t, ht⟩ := hA k p.2 p2 h0
      have et : p.1 = some t := by rw [p1] at ht; exact Option.some.inj ht
      have e2 : markStep n (((ps.zip xs).take k).foldl (markStep n) []) p = aPut (((ps.zip xs).take k).foldl (markStep n) []) (t % n) true := by
        unfold markStep
        rw [if_neg h0, et]
        rfl
      rw [e2, et]
      refine b_ifT (ptd_cmp hu (pd_ix (pd_var 5 rfl) pd_int (.tup rfl)) pd_int (.ne Ly.shp Ly.shp)) (by rw [eqv_int, decide_eq_false h0]; rfl) ?_
      refine pbd_putZ (dv := .bool) (v := true) 3 pd_bl rfl hu (pd_bin (pd_var 4 rfl) (pd_var 2 rfl) (.modI (by omega))) (by omega) (pbd_pop (pbd_wipe [4, 5] (pbd_nx rfl)))
  · obtain ⟨s1, s2, rfl⟩ := hI
    have hml := markStep_len n (ps.zip xs) []
    rw [List.length_nil] at hml
    rw [List.length_map, List.take_length]
    exact b_ret (pd_tuple B.tuple (pd_sortedKeysZ (dv := .bool) 3 rfl B.sorted rfl (by omega))) rfl
end
end Ct

-- W12
set_option Elab.async false
set_option linter.all false
set_option maxRecDepth 100000
set_option maxHeartbeats 1000000
/-! W12: makes.py: the smallest wheel (printed by gen2.py from W12.src). -/
namespace Ct
open PySem PySem.Spec L2
theorem marksArg_of {ws : List Int} {xs : List Sh} (hl : ws.length = xs.length) (h : wrongF 0 ws xs = none) : MarksArg (passed ws) xs := fun k x hx h0 => by
  have hk := (List.getElem?_eq_some_iff.mp hx).1
  obtain ⟨w0, hw0⟩ : ∃ w0, ws[k]? = some w0 := ⟨ws[k]'(by omega), List.getElem?_eq_getElem (by omega)⟩
  rcases wrongF_none h hw0 hx with q | q
  · exact absurd q h0
  · have hpl : k < (passed ws).length := by unfold passed; rw [passF_len]; omega
    have e : (passed ws)[k]? = some ((passed ws)[k]) := List.getElem?_eq_getElem hpl
    cases hp : (passed ws)[k] with
    | some t => exact ⟨t, by rw [e, hp]⟩
    | none =>
      rw [hp] at e
      have := passF_none e
      rw [hw0] at this
      cases this
      exact absurd q h0
theorem two_far {ws : List Int} {xs : List Sh} (hl : ws.length ≤ 30) (hu : ∀ w ∈ ws, unit3 w) (h : firstTwo xs (passed ws) none = none) : firstTwo xs (passed ws) (some ((61 : Nat) : Int)) = none := by
  cases e : firstTwo xs (passed ws) (some ((61 : Nat) : Int)) with
  | none => rfl
  | some b =>
    obtain ⟨a, c⟩ := b
    obtain ⟨h1, h2, h3, t, u, h4, h5, h6⟩ := firstTwo_ok.1 a c e
    obtain ⟨_, q1, q2⟩ := passF_some hu h4
    obtain ⟨_, q3, q4⟩ := passF_some hu h5
    have h6' : t % 61 = u % 61 := h6
    have htu : t = u := by omega
    exact absurd (firstTwo_ok.2 h a c t u h4 h5 htu) h3
def dBn (b : Nat × Nat) : PyData := .tuple [.int b.1, .int b.2]
section
variable {P : Program} {w : World} {K : PySem.W.Frag} {mg : Str → Option Value} {base : Heap}
def p_smallest_by (ds : List Sl) (r : PyData) : Prop := ∃ (ws : List Int) (xs : List Sh), ds = [D (dInL ws), D (dShs xs)] ∧ ws.length = xs.length ∧ xs.length ≤ 30 ∧ (∀ w ∈ ws, unit3 w) ∧ r = dAns (smallA ws xs)
/-! smallest_by -/
theorem sc_smallest_by : FnScope ["ways", "shows", "wrong", "passed", "two", "bars", "teeth"] ["ways", "shows"] (defScope s_smallest_by) := ⟨rfl, rfl, rfl, by decide +kernel, rfl, by decide +kernel, by decide +kernel⟩
theorem ok_smallest_by {f f_first_wrong f_teeth_passed f_first_two f_marks_shown : Addr} {fd : FuncData} (F : FnP K "smallest_by" s_smallest_by f fd) (hm : mg "smallest_by" = some (.ref f)) (B : Frs mg) (h_first_wrong : Has P w K mg base 1 "first_wrong" ["ways", "shows"] p_first_wrong f_first_wrong) (h_teeth_passed : Has P w K mg base 1 "teeth_passed" ["ways"] p_teeth_passed f_teeth_passed) (h_first_two : Has P w K mg base 2 "first_two" ["passed", "shows", "teeth"] p_first_two f_first_two) (h_marks_shown : Has P w K mg base 1 "marks_shown" ["passed", "shows", "teeth"] p_marks_shown f_marks_shown)  : Has P w K mg base 3 "smallest_by" ["ways", "shows"] p_smallest_by f := by
  refine has_of F hm sc_smallest_by (fun ds r h => by obtain ⟨ws, xs, rfl, hl, hxl, hu3, rfl⟩ := h; rfl) (fun _ _ _ _ _ _ us hl => match us, hl with | [_, _], _ => rfl) fun cdv A outer s H E ds r hr hp => ?_
  have hu := hr.u100
  obtain ⟨ws, xs, rfl, hl, hxl, hu3, rfl⟩ := hp
  apply ends_rt
  have hsz : sizeLine = 2 ^ 24 := rfl
  have hpl : (passed ws).length = xs.length := by unfold passed; rw [passF_len, hl]
  refine pbd_set 2 sc_smallest_by.nd (pd_call h_first_wrong (hr.mono (by decide)) (pad_cons (pd_var 0 rfl) (pad_cons (pd_var 1 rfl) pad_nil)) ⟨ws, xs, rfl, hl, rfl⟩) ?_
  cases hw : wrongF 0 ws xs with
  | some k =>
    refine b_ifT (ptd_cmp hu (pd_var 2 rfl) pd_non .notN) rfl ?_
    refine b_ret (pd_tup (ps := [_, _, _]) (pad_cons pd_str (pad_cons (pd_var 2 rfl) (pad_cons (pd_var 2 rfl) pad_nil)))) ?_
    unfold smallA
    rw [hw]
    rfl
  | none =>
    refine b_no (ptd_cmp hu (pd_var 2 rfl) pd_non .notN) rfl ?_
    refine pbd_set 3 sc_smallest_by.nd (pd_call h_teeth_passed (hr.mono (by decide)) (pad_cons (pd_var 0 rfl) pad_nil) ⟨ws, rfl, by omega, rfl⟩) ?_
    refine pbd_set 4 sc_smallest_by.nd (pd_call h_first_two (hr.mono (by decide)) (pad_cons (pd_var 3 rfl) (pad_cons (pd_var 1 rfl) (pad_cons pd_non pad_nil))) ⟨passed ws, xs, none, rfl, hpl, by omega, (fun z h => by cases h), rfl⟩) ?_
    cases h2 : firstTwo xs (passed ws) none with
    | some b =>
      refine b_ifT (ptd_cmp hu (pd_var 4 rfl) pd_non .notN) rfl ?_
      refine b_ret (pd_tup (ps := [_, _, _]) (pad_cons pd_str (pad_cons (pd_ix (pd_var 4 rfl) pd_int (.tup rfl)) (pad_cons (pd_ix (pd_var 4 rfl) pd_int (.tup rfl)) pad_nil)))) ?_
      unfold smallA
      rw [hw, h2]
      rfl
    | none =>
      have hfar := two_far (by omega) hu3 h2
      refine b_no (ptd_cmp hu (pd_var 4 rfl) pd_non .notN) rfl ?_
      refine pbd_own 5 sc_smallest_by.nd (ds := []) (pn_lst (ps := []) pad_nil) ?_
      refine pbd_set 4 sc_smallest_by.nd (pd_call h_first_two (hr.mono (by decide)) (pad_cons (pd_var 3 rfl) (pad_cons (pd_var 1 rfl) (pad_cons pd_int pad_nil))) ⟨passed ws, xs, some 1, rfl, hpl, by omega, (fun z h => by cases h; decide), rfl⟩) ?_
      refine pbd_while (fun m δ => ∃ (bars : List (Nat × Nat)) (s1 : Sl), m + bars.length = 60 ∧ barsF xs (passed ws) (100 - bars.length) bars = barsF xs (passed ws) 100 [] ∧
        δ = [D (dInL ws), D (dShs xs), D .none, D (dOps (passed ws)), D (dTwo (firstTwo xs (passed ws) (some ((bars.length : Int) + 1)))), .lst (bars.map dBn), s1]) (m0 := 60) ?_ (fun m δa hI => ?_)
      · exact ⟨[], .any, rfl, rfl, rfl⟩
      · obtain ⟨bars, s1, hm, hb, rfl⟩ := hI
        have hbl : bars.length ≤ 60 := by omega
        cases ht : firstTwo xs (passed ws) (some ((bars.length : Int) + 1)) with
        | some b =>
          refine ⟨_, (ptd_cmp hu (pd_var 4 rfl) pd_non .notN), fun _ => ?_, fun hk => by cases hk⟩
          have hne : bars.length ≠ 60 := by
            intro e
            rw [e] at ht
            have ht' : firstTwo xs (passed ws) (some ((61 : Nat) : Int)) = some b := ht
            rw [hfar] at ht'
            cases ht'
          obtain ⟨f, ef⟩ : ∃ f, 100 - bars.length = f + 1 := ⟨99 - bars.length, by omega⟩
          have hb2 : barsF xs (passed ws) f (bars ++ [b]) = barsF xs (passed ws) 100 [] := by
            rw [ef, barsF, ht] at hb
            exact hb
          have hlen : (bars ++ [b]).length = bars.length + 1 := by rw [List.length_append]; rfl
          refine ⟨.nx [D (dInL ws), D (dShs xs), D .none, D (dOps (passed ws)), D (dTwo (firstTwo xs (passed ws) (some (((bars ++ [b]).length : Int) + 1)))), .lst ((bars ++ [b]).map dBn), s1], ?_, m - 1, by omega, bars ++ [b], s1, by omega, by rw [show 100 - (bars ++ [b]).length = f by omega]; exact hb2, rfl⟩
          refine pbd_append (d := dBn b) 5 rfl (pd_var 4 rfl) rfl (by rw [List.length_map]; omega) ?_
          refine pbd_set 4 sc_smallest_by.nd (pd_call h_first_two (hr.mono (by decide)) (pad_cons (pd_var 3 rfl) (pad_cons (pd_var 1 rfl) (pad_cons (pd_bin (pd_lenO 5 B.len rfl) pd_int .addI) pad_nil))) ⟨passed ws, xs, some (((bars ++ [b]).length : Int) + 1), ?_, hpl, by omega, (fun z h => by cases h; omega), rfl⟩) (pbd_nx ?_)
          · show [_, _, D (.int (((bars.map dBn ++ [dBn b]).length : Int) + 1))] = [_, _, D (.int _)]
            rw [List.length_append, List.length_map, hlen]
            rfl
          · rw [List.map_append]
            rfl
        | none =>
          refine ⟨_, (ptd_cmp hu (pd_var 4 rfl) pd_non .notN), fun hk => (by cases hk), fun _ => ?_⟩
          have hfin : barsF xs (passed ws) 100 [] = bars := by
            rw [← hb]
            obtain ⟨f, ef⟩ : ∃ f, 100 - bars.length = f + 1 := ⟨99 - bars.length, by omega⟩
            rw [ef, barsF, ht]
          refine pbd_set 6 sc_smallest_by.nd (s := D (.int ((bars.length : Int) + 1))) (PED.eq (pd_bin (pd_lenO 5 B.len rfl) pd_int .addI) (by rw [List.length_map])) ?_
          refine pbd_freeze 5 rfl ?_
          refine b_ret (pd_tup (ps := [_, _, _, _]) (pad_cons pd_str (pad_cons (pd_var 6 rfl) (pad_cons (pd_call h_marks_shown (hr.mono (by decide)) (pad_cons (pd_var 3 rfl) (pad_cons (pd_var 1 rfl) (pad_cons (pd_var 6 rfl) pad_nil))) ⟨passed ws, xs, (bars.length : Int) + 1, rfl, hpl, by omega, by omega, marksArg_of hl hw, rfl⟩) (pad_cons (pd_var 5 rfl) pad_nil))))) ?_
          unfold smallA
          rw [hw, h2]
          dsimp only [dAns]
          rw [hfin, List.map_map]
          rfl
end
end Ct

-- M7
set_option Elab.async false
set_option linter.all false
set_option maxRecDepth 100000
set_option maxHeartbeats 1000000
/-! M7: the smallest wheel is let by, plain mathematics. -/
namespace Ct
open PySem
def dueF (z : Int) (ms : List Int) (w : Int) : Option Int → Int
  | some t => if t % z ∈ ms then w else 0
  | none => 0
def DoesOk (ws : List Int) (xs : List Sh) (z : Int) (ms : List Int) : Prop := ∀ (j : Nat) (w : Int) (x : Sh) (p : Option Int), ws[j]? = some w → xs[j]? = some x → (passed ws)[j]? = some p → x.2 = dueF z ms w p
def SmallOk (ws : List Int) (xs : List Sh) : Ans → Prop
  | .none_ j k => ∃ a b : Nat, j = a ∧ k = b ∧ ((a = b ∧ ∃ w x, ws[a]? = some w ∧ xs[a]? = some x ∧ x.2 ≠ 0 ∧ x.2 ≠ w) ∨ TwoOk (placeF none) xs (passed ws) a b)
  | .wheel z ms bars => 1 ≤ z ∧ z ≤ 1000 ∧ marksOk z ms ∧ (bars.length : Int) = z - 1 ∧ DoesOk ws xs z ms ∧ ∀ (k : Nat) (b : Int × Int), bars[k]? = some b → ∃ a c : Nat, b = ((a : Int), (c : Int)) ∧ TwoOk (placeF (some ((k : Int) + 1))) xs (passed ws) a c
  | _ => False
theorem sortI_lt {l : List Int} (h : l.Nodup) : (sortI l).Pairwise (· < ·) := by
  have h1 : (sortI l).Pairwise (· ≤ ·) := by
    have := List.pairwise_mergeSort (le := fun a b : Int => decide (a ≤ b)) (fun a b c h1 h2 => decide_eq_true (Int.le_trans (of_decide_eq_true h1) (of_decide_eq_true h2))) (fun a b => by
      rcases Int.le_total a b with h | h
      · simp [h]
      · simp [h]) l
    exact this.imp fun h => of_decide_eq_true h
  have h2 : (sortI l).Nodup := (List.mergeSort_perm l _).nodup_iff.mpr h
  unfold List.Nodup at h2
  refine (h1.and h2).imp ?_
  rintro a b ⟨q1, q2⟩
  omega
theorem smallA_ok {ws : List Int} {xs : List Sh} (hl : ws.length = xs.length) (hxl : xs.length ≤ 30) (hu3 : ∀ w ∈ ws, unit3 w) : SmallOk ws xs (smallA ws xs) := by
  unfold smallA
  cases hw : wrongF 0 ws xs with
  | some k =>
    obtain ⟨j, w, x, h1, h2, h3, h4⟩ := wrongF_some hw
    rw [Nat.zero_add] at h1
    subst h1
    exact ⟨k, k, rfl, rfl, .inl ⟨rfl, w, x, h2, h3, h4⟩⟩
  | none =>
    dsimp only
    cases h2 : firstTwo xs (passed ws) none with
    | some b => exact ⟨b.1, b.2, rfl, rfl, .inr (firstTwo_ok.1 b.1 b.2 h2)⟩
    | none =>
      dsimp only
      have hfar := two_far (by omega) hu3 h2
      obtain ⟨b1, b2, b3⟩ := barsF_ok hfar 100 [] (by decide) (by decide) (fun k b h => by simp at h)
      generalize barsF xs (passed ws) 100 [] = bars at b1 b2 b3
      have hA := marksArg_of hl hw
      have hno := firstTwo_ok.2 b1
      obtain ⟨m1, m2⟩ := marksM_ok ((bars.length : Int) + 1) ((passed ws).zip xs) [] (by simp)
      have hpl : (passed ws).length = xs.length := by unfold passed; rw [passF_len, hl]
      have hmem : ∀ y, y ∈ marksF xs (passed ws) ((bars.length : Int) + 1) ↔ ∃ p ∈ (passed ws).zip xs, p.2.2 ≠ 0 ∧ y = p.1.getD 0 % ((bars.length : Int) + 1) := fun y => by
        unfold marksF sortI
        rw [List.mem_mergeSort]
        refine (m2 y).trans ?_
        simp
      refine ⟨by omega, by omega, ⟨fun m hm => ?_, sortI_lt m1⟩, by rw [List.length_map]; omega, fun j w x p hj hx hp => ?_, fun k b hb => ?_⟩
      · obtain ⟨p, _, _, rfl⟩ := (hmem m).mp hm
        exact ⟨Int.emod_nonneg _ (by omega), Int.emod_lt_of_pos _ (by omega)⟩
      · have hw' := wrongF_none hw hj hx
        cases p with
        | none =>
          have := passF_none hp
          rw [hj] at this
          cases this
          rcases hw' with q | q <;> exact q
        | some t =>
          show x.2 = if t % _ ∈ _ then w else 0
          by_cases h0 : x.2 = 0
          · rw [if_neg]
            · exact h0
            · intro hm
              obtain ⟨q, hq, q1, q2⟩ := (hmem _).mp hm
              obtain ⟨i, hi⟩ := List.getElem?_of_mem hq
              obtain ⟨i1, i2⟩ := List.getElem?_zip_eq_some.mp hi
              obtain ⟨u, hu⟩ := hA i q.2 i2 q1
              have eu : q.1 = some u := by rw [i1] at hu; exact Option.some.inj hu
              rw [eu] at q2
              have hz := hno j i t u hp hu q2
              rw [zeroAt_of hx, zeroAt_of i2, decide_eq_true h0, decide_eq_false q1] at hz
              cases hz
          · rw [if_pos]
            · exact hw'.resolve_left h0
            · refine (hmem _).mpr ⟨(some t, x), ?_, h0, rfl⟩
              exact List.mem_of_getElem? (List.getElem?_zip_eq_some.mpr ⟨hp, hx⟩)
      · rw [List.getElem?_map] at hb
        obtain ⟨c, hc, rfl⟩ := Option.map_eq_some_iff.mp hb
        exact ⟨c.1, c.2, rfl, firstTwo_ok.1 c.1 c.2 (b3 k c hc)⟩
end Ct

-- W13
set_option Elab.async false
set_option linter.all false
set_option maxRecDepth 100000
set_option maxHeartbeats 1000000
/-! W13: makes.py: the judges (printed by gen2.py from W13.src). -/
namespace Ct
open PySem PySem.Spec L2
theorem numbered_map {α : Type} {f : α → PyData} (l : List α) : numbered (l.map f) = l.zipIdx.map fun p => .tuple [.int ((p.2 : Nat) : Int), f p.1] := by
  apply List.ext_getElem?
  intro i
  unfold numbered
  rw [List.getElem?_mapIdx, List.getElem?_map, List.getElem?_map, List.getElem?_zipIdx]
  cases l[i]? <;> simp
section
variable {P : Program} {w : World} {K : PySem.W.Frag} {mg : Str → Option Value} {base : Heap}
def p_is_two (ds : List Sl) (r : PyData) : Prop := ∃ (ps : List (Option Int)) (xs : List Sh) (n : Option Int) (a b : Nat), ds = [D (dOps ps), D (dShs xs), D (dOpt n), D (.tuple [.int a, .int b])] ∧ ps.length = xs.length ∧ xs.length ≤ 1000 ∧ (∀ z, n = some z → 0 < z) ∧ TwoOk (placeF n) xs ps a b ∧ r = .bool true
/-! is_two -/
theorem sc_is_two : FnScope ["passed", "shows", "teeth", "thing", "k", "one", "other"] ["passed", "shows", "teeth", "thing"] (defScope s_is_two) := ⟨rfl, rfl, rfl, by decide +kernel, rfl, by decide +kernel, by decide +kernel⟩
theorem ok_is_two {f f_place_of f_is_whole : Addr} {fd : FuncData} (F : FnP K "is_two" s_is_two f fd) (hm : mg "is_two" = some (.ref f)) (B : Frs mg) (h_place_of : Has P w K mg base 1 "place_of" ["tooth", "teeth"] p_place_of f_place_of) (h_is_whole : Has P w K mg base 1 "is_whole" ["thing"] p_is_whole f_is_whole)  : Has P w K mg base 2 "is_two" ["passed", "shows", "teeth", "thing"] p_is_two f := by
  refine has_of F hm sc_is_two (fun ds r h => by obtain ⟨ps, xs, n, a, b, rfl, hl, hxl, hn, hT, rfl⟩ := h; rfl) (fun _ _ _ _ _ _ us hl => match us, hl with | [_, _, _, _], _ => rfl) fun cdv A outer s H E ds r hr hp => ?_
  have hu := hr.u100
  obtain ⟨ps, xs, n, a, b, rfl, hl, hxl, hn, hT, rfl⟩ := hp
  apply ends_rt
  obtain ⟨h1, h2, h3, t, u, h4, h5, h6⟩ := hT
  refine b_no (ptd_w (w_orF (ptd_not (ptd_val (pd_isTuple B (pd_var 3 rfl)))) rfl (w_or1 (ptd_cmp hu (pd_len B.len (pd_var 3 rfl) .tup) pd_int (.ne Ly.shp Ly.shp))))) rfl ?_
  refine b_no (ptd_w (w_orF (ptd_not (ptd_val (pd_allT [("k", 4)] ([(a : Int), (b : Int)]) .int rfl B.all sc_is_two.nd (pid_tup (pd_var 3 rfl)) (blkOk_by (N := ["passed", "shows", "teeth", "thing", "k", "one", "other"]) (own := [("k", 4)]) (sc := defScope s_is_two) (by decide +kernel)) (fun x hx => ⟨_, fun _ _ _ _ _ => (pgw_name 4 sc_is_two.nd), fun _ _ _ _ _ => PED.eq (e_andT (pd_call h_is_whole (hr.mono (by decide)) (pad_cons (pd_var 4 rfl) pad_nil) ⟨x, rfl, rfl⟩) rfl (e_one (PED.eq (pd_chain hu pd_int (pd_var 4 rfl) (pd_len B.len (pd_var 1 rfl) .lst) .le .lt) (congrArg PyData.bool ?_)))) rfl, rfl⟩) (small_size (by show 2 ≤ 100000; decide))))) rfl (w_or1 (ptd_cmp hu (pd_ix (pd_var 3 rfl) pd_int (.tup rfl)) (pd_ix (pd_var 3 rfl) pd_int (.tup rfl)) .ge)))) (decide_eq_false (by omega)) ?_
  · simp only [List.mem_cons, List.not_mem_nil, or_false] at hx
    simp only [List.length_map, Bool.and_eq_true, decide_eq_true_iff]
    omega
  refine pbd_par 5 6 rfl sc_is_two.nd (pd_ix (pd_var 0 rfl) (pd_ix (pd_var 3 rfl) pd_int (.tup rfl)) (.lst (atI_map h4))) (pd_ix (pd_var 0 rfl) (pd_ix (pd_var 3 rfl) pd_int (.tup rfl)) (.lst (atI_map h5))) ?_ rfl
  refine b_no (ptd_w (w_orF (ptd_cmp hu (pd_var 5 rfl) pd_non .isN) rfl (w_orF (ptd_cmp hu (pd_var 6 rfl) pd_non .isN) rfl (w_or1 (ptd_cmp hu (pd_call h_place_of (hr.mono (by decide)) (pad_cons (pd_var 5 rfl) (pad_cons (pd_var 2 rfl) pad_nil)) ⟨t, n, rfl, hn, rfl⟩) (pd_call h_place_of (hr.mono (by decide)) (pad_cons (pd_var 6 rfl) (pad_cons (pd_var 2 rfl) pad_nil)) ⟨u, n, rfl, hn, rfl⟩) (.ne Ly.shp Ly.shp)))))) (by rw [eqv_int, decide_eq_true h6]; rfl) ?_
  obtain ⟨x, hx⟩ : ∃ x, xs[a]? = some x := ⟨xs[a]'(by omega), List.getElem?_eq_getElem (by omega)⟩
  obtain ⟨y, hy⟩ : ∃ y, xs[b]? = some y := ⟨xs[b]'(by omega), List.getElem?_eq_getElem (by omega)⟩
  rw [zeroAt_of hx, zeroAt_of hy] at h3
  refine b_ret (pd_cmp hu (pd_cmp hu (pd_ix (pd_ix (pd_var 1 rfl) (pd_ix (pd_var 3 rfl) pd_int (.tup rfl)) (.lst (atI_map hx))) pd_int (.tup rfl)) pd_int (.eq Ly.shp Ly.shp)) (pd_cmp hu (pd_ix (pd_ix (pd_var 1 rfl) (pd_ix (pd_var 3 rfl) pd_int (.tup rfl)) (.lst (atI_map hy))) pd_int (.tup rfl)) pd_int (.eq Ly.shp Ly.shp)) (.ne Ly.shp Ly.shp)) (congrArg PyData.bool ?_)
  rw [eqv_boolB, eqv_int, eqv_int]
  simpa using h3
def p_does_shows (ds : List Sl) (r : PyData) : Prop := ∃ (ws : List Int) (xs : List Sh) (z : Int) (ms : List Int), ds = [D (dInL ws), D (dShs xs), D (.int z), D (.tuple (ms.map .int))] ∧ ws.length ≤ 1000 ∧ 1 ≤ z ∧ z ≤ 1000 ∧ DoesOk ws xs z ms ∧ r = .bool true
theorem zip3D_at {α β γ : Type} {f : α → PyData} {g : β → PyData} {h : γ → PyData} {xs : List α} {ys : List β} {zs : List γ} {k : Nat} {d : PyData} (e : (zip3D (xs.map f) (ys.map g) (zs.map h))[k]? = some d) : ∃ x y z, xs[k]? = some x ∧ ys[k]? = some y ∧ zs[k]? = some z ∧ d = .tuple [f x, g y, h z] := by
  unfold zip3D at e
  rw [List.getElem?_map] at e
  obtain ⟨⟨⟨d1, d2⟩, d3⟩, he, rfl⟩ := Option.map_eq_some_iff.mp e
  obtain ⟨e1, e3⟩ := List.getElem?_zip_eq_some.mp he
  obtain ⟨e1, e2⟩ := List.getElem?_zip_eq_some.mp e1
  rw [List.getElem?_map] at e1 e2 e3
  obtain ⟨x, hx, q1⟩ := Option.map_eq_some_iff.mp e1
  obtain ⟨y, hy, q2⟩ := Option.map_eq_some_iff.mp e2
  obtain ⟨z, hz, q3⟩ := Option.map_eq_some_iff.mp e3
  dsimp only at q1 q2 q3
  exact ⟨x, y, z, hx, hy, hz, by rw [q1, q2, q3]⟩
/-! does_shows -/
theorem sc_does_shows : FnScope ["ways", "shows", "teeth", "marks", "way", "tooth", "show", "due"] ["ways", "shows", "teeth", "marks"] (defScope s_does_shows) := ⟨rfl, rfl, rfl, by decide +kernel, rfl, by decide +kernel, by decide +kernel⟩
theorem ok_does_shows {f f_teeth_passed : Addr} {fd : FuncData} (F : FnP K "does_shows" s_does_shows f fd) (hm : mg "does_shows" = some (.ref f)) (B : Frs mg) (h_teeth_passed : Has P w K mg base 1 "teeth_passed" ["ways"] p_teeth_passed f_teeth_passed)  : Has P w K mg base 2 "does_shows" ["ways", "shows", "teeth", "marks"] p_does_shows f := by
  refine has_of F hm sc_does_shows (fun ds r h => by obtain ⟨ws, xs, z, ms, rfl, hl, hz1, hz2, hD, rfl⟩ := h; rfl) (fun _ _ _ _ _ _ us hl => match us, hl with | [_, _, _, _], _ => rfl) fun cdv A outer s H E ds r hr hp => ?_
  have hu := hr.u100
  obtain ⟨ws, xs, z, ms, rfl, hl, hz1, hz2, hD, rfl⟩ := hp
  apply ends_rt
  refine pbd_for rfl (items := zip3D (ws.map .int) ((passed ws).map dOpt) (xs.map dSh)) (pid_zip3 B.zip (pd_var 0 rfl) (pd_call h_teeth_passed (hr.mono (by decide)) (pad_cons (pd_var 0 rfl) pad_nil) ⟨ws, rfl, hl, rfl⟩) (pd_var 1 rfl)) (fun k δ => ∃ s1 s2 s3 s4 : Sl, δ = [D (dInL ws), D (dShs xs), D (.int z), D (.tuple (ms.map .int)), s1, s2, s3, s4]) ?_ (fun k d δa hd hI => ?_) (fun δa hI => ?_)
  · exact ⟨.any, .any, .any, .any, rfl⟩
  · obtain ⟨s1, s2, s3, s4, rfl⟩ := hI
    obtain ⟨w0, p, x, hw, hp, hx, rfl⟩ := zip3D_at hd
    have hdo := hD k w0 x p hw hx hp
    refine ⟨_, .nx [D (dInL ws), D (dShs xs), D (.int z), D (.tuple (ms.map .int)), .any, .any, .any, .any], (pgd_tup rfl (pgds_cons (pgd_name 4 sc_does_shows.nd) (pgds_cons (pgd_name 5 sc_does_shows.nd) (pgds_cons (pgd_name 6 sc_does_shows.nd) pgds_nil)))), pbd_set 7 sc_does_shows.nd pd_int ?_, .any, .any, .any, .any, rfl⟩
    cases p with
    | none =>
      refine b_no (ptd_w (w_andF (ptd_cmp hu (pd_var 5 rfl) pd_non .notN) rfl)) rfl ?_
      refine b_no (ptd_cmp hu (pd_ix (pd_var 6 rfl) pd_int (.tup rfl)) (pd_var 7 rfl) (.ne Ly.shp Ly.shp)) (by rw [eqv_int, decide_eq_true (show x.2 = 0 from hdo)]; rfl) (pbd_wipe [4, 5, 6, 7] (pbd_nx rfl))
    | some t =>
      by_cases hm : t % z ∈ ms
      · have hdo' : x.2 = w0 := by rw [hdo]; exact if_pos hm
        refine b_ifT (ptd_w (w_andT (ptd_cmp hu (pd_var 5 rfl) pd_non .notN) rfl (w_and1 (ptd_cmp hu (pd_bin (pd_var 5 rfl) (pd_var 2 rfl) (.modI (by omega))) (pd_var 3 rfl) .inT)))) (decide_eq_true hm) ?_
        refine pbd_set 7 sc_does_shows.nd (pd_var 4 rfl) (pbd_pop ?_)
        exact b_no (ptd_cmp hu (pd_ix (pd_var 6 rfl) pd_int (.tup rfl)) (pd_var 7 rfl) (.ne Ly.shp Ly.shp)) (by rw [eqv_int, decide_eq_true hdo']; rfl) (pbd_wipe [4, 5, 6, 7] (pbd_nx rfl))
      · have hdo' : x.2 = 0 := by rw [hdo]; exact if_neg hm
        refine b_no (ptd_w (w_andT (ptd_cmp hu (pd_var 5 rfl) pd_non .notN) rfl (w_and1 (ptd_cmp hu (pd_bin (pd_var 5 rfl) (pd_var 2 rfl) (.modI (by omega))) (pd_var 3 rfl) .inT)))) (decide_eq_false hm) ?_
        exact b_no (ptd_cmp hu (pd_ix (pd_var 6 rfl) pd_int (.tup rfl)) (pd_var 7 rfl) (.ne Ly.shp Ly.shp)) (by rw [eqv_int, decide_eq_true hdo']; rfl) (pbd_wipe [4, 5, 6, 7] (pbd_nx rfl))
  · obtain ⟨s1, s2, s3, s4, rfl⟩ := hI
    exact b_ret pd_bl rfl
def p_is_none_by (ds : List Sl) (r : PyData) : Prop := ∃ (ws : List Int) (xs : List Sh) (j k : Int), ds = [D (dInL ws), D (dShs xs), D (.int j), D (.int k)] ∧ ws.length = xs.length ∧ xs.length ≤ 1000 ∧ SmallOk ws xs (.none_ j k) ∧ r = .bool true
/-! is_none_by -/
theorem sc_is_none_by : FnScope ["ways", "shows", "j", "k"] ["ways", "shows", "j", "k"] (defScope s_is_none_by) := ⟨rfl, rfl, rfl, by decide +kernel, rfl, by decide +kernel, by decide +kernel⟩
theorem ok_is_none_by {f f_is_two f_is_whole f_teeth_passed : Addr} {fd : FuncData} (F : FnP K "is_none_by" s_is_none_by f fd) (hm : mg "is_none_by" = some (.ref f)) (B : Frs mg) (h_is_two : Has P w K mg base 2 "is_two" ["passed", "shows", "teeth", "thing"] p_is_two f_is_two) (h_is_whole : Has P w K mg base 1 "is_whole" ["thing"] p_is_whole f_is_whole) (h_teeth_passed : Has P w K mg base 1 "teeth_passed" ["ways"] p_teeth_passed f_teeth_passed)  : Has P w K mg base 3 "is_none_by" ["ways", "shows", "j", "k"] p_is_none_by f := by
  refine has_of F hm sc_is_none_by (fun ds r h => by obtain ⟨ws, xs, j, k, rfl, hl, hxl, hA, rfl⟩ := h; rfl) (fun _ _ _ _ _ _ us hl => match us, hl with | [_, _, _, _], _ => rfl) fun cdv A outer s H E ds r hr hp => ?_
  have hu := hr.u100
  obtain ⟨ws, xs, j, k, rfl, hl, hxl, hA, rfl⟩ := hp
  apply ends_rt
  have hpl : (passed ws).length = xs.length := by unfold passed; rw [passF_len, hl]
  obtain ⟨a, b, rfl, rfl, hA⟩ := hA
  rcases hA with ⟨rfl, w0, x, hw, hx, h1, h2⟩ | hT
  · have hal := (List.getElem?_eq_some_iff.mp hx).1
    refine b_no (ptd_w (w_orF (ptd_not (ptd_val (pd_call h_is_whole (hr.mono (by decide)) (pad_cons (pd_var 2 rfl) pad_nil) ⟨(a : Int), rfl, rfl⟩))) rfl (w_orF (ptd_not (ptd_val (pd_call h_is_whole (hr.mono (by decide)) (pad_cons (pd_var 3 rfl) pad_nil) ⟨(a : Int), rfl, rfl⟩))) rfl (w_or1 (ptd_cmp hu (pd_var 2 rfl) (pd_var 3 rfl) (.ne Ly.shp Ly.shp)))))) (by rw [eqv_int, decide_eq_true rfl]; rfl) ?_
    refine b_ret (e_andT (pd_chain hu pd_int (pd_var 2 rfl) (pd_len B.len (pd_var 1 rfl) .lst) .le .lt) ?_ (e_andT (pd_cmp hu (pd_ix (pd_ix (pd_var 1 rfl) (pd_var 2 rfl) (.lst (atI_map hx))) pd_int (.tup rfl)) pd_int (.ne Ly.shp Ly.shp)) (by rw [eqv_int, decide_eq_false h1]; rfl) (e_one (PED.eq (pd_cmp hu (pd_ix (pd_ix (pd_var 1 rfl) (pd_var 2 rfl) (.lst (atI_map hx))) pd_int (.tup rfl)) (pd_ix (pd_var 0 rfl) (pd_var 2 rfl) (.lst (atI_map hw))) (.ne Ly.shp Ly.shp)) (congrArg PyData.bool (by rw [eqv_int, decide_eq_false h2]; rfl)))))) rfl
    simp [hal]
  · have hne : ¬ ((a : Int) = (b : Int)) := by have := hT.1; omega
    refine b_ifT (ptd_w (w_orF (ptd_not (ptd_val (pd_call h_is_whole (hr.mono (by decide)) (pad_cons (pd_var 2 rfl) pad_nil) ⟨(a : Int), rfl, rfl⟩))) rfl (w_orF (ptd_not (ptd_val (pd_call h_is_whole (hr.mono (by decide)) (pad_cons (pd_var 3 rfl) pad_nil) ⟨(b : Int), rfl, rfl⟩))) rfl (w_or1 (ptd_cmp hu (pd_var 2 rfl) (pd_var 3 rfl) (.ne Ly.shp Ly.shp)))))) (by rw [eqv_int, decide_eq_false hne]; rfl) ?_
    exact b_ret (pd_call h_is_two (hr.mono (by decide)) (pad_cons (pd_call h_teeth_passed (hr.mono (by decide)) (pad_cons (pd_var 0 rfl) pad_nil) ⟨ws, rfl, by omega, rfl⟩) (pad_cons (pd_var 1 rfl) (pad_cons pd_non (pad_cons (pd_tup (ps := [_, _]) (pad_cons (pd_var 2 rfl) (pad_cons (pd_var 3 rfl) pad_nil))) pad_nil)))) ⟨passed ws, xs, none, a, b, rfl, hpl, hxl, (fun z h => by cases h), hT, rfl⟩) rfl
def p_is_smallest_by (ds : List Sl) (r : PyData) : Prop := ∃ (ws : List Int) (xs : List Sh) (a : Ans), ds = [D (dInL ws), D (dShs xs), D (dAns a)] ∧ ws.length = xs.length ∧ xs.length ≤ 1000 ∧ SmallOk ws xs a ∧ r = .bool true
/-! is_smallest_by -/
theorem sc_is_smallest_by : FnScope ["ways", "shows", "thing", "word", "teeth", "marks", "bars", "passed", "k", "two"] ["ways", "shows", "thing"] (defScope s_is_smallest_by) := ⟨rfl, rfl, rfl, by decide +kernel, rfl, by decide +kernel, by decide +kernel⟩
theorem ok_is_smallest_by {f f_teeth_passed f_is_none_by f_is_whole f_is_marks f_does_shows f_is_two : Addr} {fd : FuncData} (F : FnP K "is_smallest_by" s_is_smallest_by f fd) (hm : mg "is_smallest_by" = some (.ref f)) (B : Frs mg) (h_teeth_passed : Has P w K mg base 1 "teeth_passed" ["ways"] p_teeth_passed f_teeth_passed) (h_is_none_by : Has P w K mg base 3 "is_none_by" ["ways", "shows", "j", "k"] p_is_none_by f_is_none_by) (h_is_whole : Has P w K mg base 1 "is_whole" ["thing"] p_is_whole f_is_whole) (h_is_marks : Has P w K mg base 2 "is_marks" ["teeth", "thing"] p_is_marks f_is_marks) (h_does_shows : Has P w K mg base 2 "does_shows" ["ways", "shows", "teeth", "marks"] p_does_shows f_does_shows) (h_is_two : Has P w K mg base 2 "is_two" ["passed", "shows", "teeth", "thing"] p_is_two f_is_two)  : Has P w K mg base 4 "is_smallest_by" ["ways", "shows", "thing"] p_is_smallest_by f := by
  refine has_of F hm sc_is_smallest_by (fun ds r h => by obtain ⟨ws, xs, a, rfl, hl, hxl, hA, rfl⟩ := h; rfl) (fun _ _ _ _ _ _ us hl => match us, hl with | [_, _, _], _ => rfl) fun cdv A outer s H E ds r hr hp => ?_
  have hu := hr.u100
  obtain ⟨ws, xs, a, rfl, hl, hxl, hA, rfl⟩ := hp
  apply ends_rt
  have hpl : (passed ws).length = xs.length := by unfold passed; rw [passF_len, hl]
  cases a with
  | none_ j k =>
    refine b_no (ptd_w (w_orF (ptd_not (ptd_val (pd_isTuple B (pd_var 2 rfl)))) rfl (w_orF (ptd_cmp hu (pd_len B.len (pd_var 2 rfl) .tup) pd_int .lt) rfl (w_or1 (ptd_not (ptd_val (pd_isStr B (pd_ix (pd_var 2 rfl) pd_int (.tup rfl))))))))) rfl ?_
    refine b_ifT (ptd_cmp hu (pd_len B.len (pd_var 2 rfl) .tup) pd_int (.eq Ly.shp Ly.shp)) (by rw [eqv_int]; rfl) ?_
    exact b_ret (e_andT (pd_cmp hu (pd_ix (pd_var 2 rfl) pd_int (.tup rfl)) pd_str (.eq Ly.shp Ly.shp)) (by rw [eqv_str]; exact decide_eq_true rfl) (e_one (PED.eq (pd_call h_is_none_by (hr.mono (by decide)) (pad_cons (pd_var 0 rfl) (pad_cons (pd_var 1 rfl) (pad_cons (pd_ix (pd_var 2 rfl) pd_int (.tup rfl)) (pad_cons (pd_ix (pd_var 2 rfl) pd_int (.tup rfl)) pad_nil)))) ⟨ws, xs, j, k, rfl, hl, hxl, hA, rfl⟩) rfl))) rfl
  | wheel z ms bars =>
    obtain ⟨hz1, hz2, hm, hb, hD, hB⟩ := hA
    refine b_no (ptd_w (w_orF (ptd_not (ptd_val (pd_isTuple B (pd_var 2 rfl)))) rfl (w_orF (ptd_cmp hu (pd_len B.len (pd_var 2 rfl) .tup) pd_int .lt) rfl (w_or1 (ptd_not (ptd_val (pd_isStr B (pd_ix (pd_var 2 rfl) pd_int (.tup rfl))))))))) rfl ?_
    refine b_no (ptd_cmp hu (pd_len B.len (pd_var 2 rfl) .tup) pd_int (.eq Ly.shp Ly.shp)) (by rw [eqv_int]; rfl) ?_
    refine b_no (ptd_w (w_orF (ptd_cmp hu (pd_len B.len (pd_var 2 rfl) .tup) pd_int .gt) rfl (w_or1 (ptd_cmp hu (pd_ix (pd_var 2 rfl) pd_int (.tup rfl)) pd_str (.ne Ly.shp Ly.shp))))) (by rw [eqv_str, decide_eq_true rfl]; rfl) ?_
    refine pbd_asg (pd_var 2 rfl) (pgd_tup rfl (pgds_cons (pgd_name 3 sc_is_smallest_by.nd) (pgds_cons (pgd_name 4 sc_is_smallest_by.nd) (pgds_cons (pgd_name 5 sc_is_smallest_by.nd) (pgds_cons (pgd_name 6 sc_is_smallest_by.nd) pgds_nil))))) ?_
    refine b_no (ptd_w (w_orF (ptd_not (ptd_val (pd_call h_is_whole (hr.mono (by decide)) (pad_cons (pd_var 4 rfl) pad_nil) ⟨z, rfl, rfl⟩))) rfl (w_orF (ptd_cmp hu (pd_var 4 rfl) pd_int .lt) (decide_eq_false (by omega)) (w_or1 (ptd_not (ptd_val (pd_call h_is_marks (hr.mono (by decide)) (pad_cons (pd_var 4 rfl) (pad_cons (pd_var 5 rfl) pad_nil)) ⟨z, ms, rfl, hm, hz2, by omega, rfl⟩))))))) rfl ?_
    refine b_no (ptd_w (w_orF (ptd_not (ptd_val (pd_isList B (pd_var 6 rfl)))) rfl (w_orF (ptd_cmp hu (pd_len B.len (pd_var 6 rfl) .lst) (pd_bin (pd_var 4 rfl) pd_int .subI) (.ne Ly.shp Ly.shp)) ?_ (w_or1 (ptd_not (ptd_val (pd_call h_does_shows (hr.mono (by decide)) (pad_cons (pd_var 0 rfl) (pad_cons (pd_var 1 rfl) (pad_cons (pd_var 4 rfl) (pad_cons (pd_var 5 rfl) pad_nil)))) ⟨ws, xs, z, ms, rfl, by omega, hz1, hz2, hD, rfl⟩))))))) rfl ?_
    · rw [eqv_int, List.length_map, decide_eq_true hb]; rfl
    refine pbd_set 7 sc_is_smallest_by.nd (pd_call h_teeth_passed (hr.mono (by decide)) (pad_cons (pd_var 0 rfl) pad_nil) ⟨ws, rfl, by omega, rfl⟩) ?_
    have hat : ∀ x ∈ bars.zipIdx, ∃ a c : Nat, x.1 = ((a : Int), (c : Int)) ∧ TwoOk (placeF (some ((x.2 : Int) + 1))) xs (passed ws) a c := fun x hx => hB x.2 x.1 (by
      obtain ⟨b, i⟩ := x
      exact List.mk_mem_zipIdx_iff_getElem?.mp hx)
    refine b_ret (pd_allT [("k", 8), ("two", 9)] bars.zipIdx (fun p => .tuple [.int ((p.2 : Nat) : Int), dBar p.1]) rfl B.all sc_is_smallest_by.nd (PID.eq (pid_enum B.enumerate (pd_var 6 rfl)) (numbered_map bars)) (blkOk_by (N := ["ways", "shows", "thing", "word", "teeth", "marks", "bars", "passed", "k", "two"]) (own := [("k", 8), ("two", 9)]) (sc := defScope s_is_smallest_by) (by decide +kernel)) (fun x hx => ⟨_, fun _ _ _ _ _ => (pgw_tup rfl (pgws_cons (pgw_name 8 sc_is_smallest_by.nd) (pgws_cons (pgw_name 9 sc_is_smallest_by.nd) pgws_nil))), fun _ _ _ _ _ => PED.eq (pd_call h_is_two (hr.mono (by decide)) (pad_cons (pd_var 7 rfl) (pad_cons (pd_var 1 rfl) (pad_cons (pd_bin (pd_var 8 rfl) pd_int .addI) (pad_cons (pd_var 9 rfl) pad_nil)))) ?_) rfl, rfl⟩) (small_size (by rw [List.length_zipIdx]; omega))) rfl
    obtain ⟨a, c, h1, h2⟩ := hat x hx
    exact ⟨passed ws, xs, some ((x.2 : Int) + 1), a, c, by rw [h1]; rfl, hpl, hxl, (fun z h => by cases h; omega), h2, rfl⟩
  | apart l => exact hA.elim
  | alike l => exact hA.elim
  | never l => exact hA.elim
  | row b p n => exact hA.elim
end
end Ct

-- W14
set_option Elab.async false
set_option linter.all false
set_option maxRecDepth 100000
set_option maxHeartbeats 1000000
/-! W14: makes.py: the smallest wheel by itself and behind a train (printed by gen2.py from W14.src). -/
namespace Ct
open PySem PySem.Spec L2
/-! one push shows 1, -1 or nothing -/
theorem filter_one {ms : List Int} {f : Int → Bool} (hn : ms.Nodup) (h : ∀ a ∈ ms, ∀ b ∈ ms, f a = true → f b = true → a = b) : (ms.filter f).length ≤ 1 := by
  have hnf : (ms.filter f).Nodup := hn.sublist List.filter_sublist
  cases e : ms.filter f with
  | nil => exact Nat.zero_le _
  | cons a l =>
    cases l with
    | nil => exact Nat.le_refl _
    | cons b l =>
      have ha : a ∈ ms.filter f := by rw [e]; exact List.mem_cons_self
      have hb : b ∈ ms.filter f := by rw [e]; exact List.mem_cons_of_mem _ List.mem_cons_self
      have hab := h a (List.mem_filter.mp ha).1 b (List.mem_filter.mp hb).1 (List.mem_filter.mp ha).2 (List.mem_filter.mp hb).2
      rw [e, List.nodup_cons] at hnf
      exact absurd (hab ▸ List.mem_cons_self) hnf.1
theorem nodup_lt {ms : List Int} (h : ms.Pairwise (· < ·)) : ms.Nodup := h.imp fun h => by omega
theorem emod_one_eq {a b x z : Int} (hz : 0 < z) (ha : 0 ≤ a ∧ a < z) (hb : 0 ≤ b ∧ b < z) (h1 : (a - x) % z = (b - x) % z) : a = b := by
  have h2 : (a - x - (b - x)) % z = 0 := Int.emod_eq_emod_iff_emod_sub_eq_zero.mp h1
  rw [show a - x - (b - x) = a - b by omega] at h2
  obtain ⟨c, hc⟩ := Int.dvd_of_emod_eq_zero h2
  have : c = 0 := by
    rcases Int.lt_trichotomy c 0 with q | q | q
    · have : z * c ≤ z * (-1) := Int.mul_le_mul_of_nonneg_left (by omega) (by omega)
      omega
    · exact q
    · have : z * 1 ≤ z * c := Int.mul_le_mul_of_nonneg_left (by omega) (by omega)
      omega
  subst this
  omega
theorem ppush_unit {p : Part} {x way n : Int} (hp : p.ok) (hx : 0 ≤ x ∧ x < places p) (hw : isWay way) (hn : n = 0 ∨ n = 1) : (ppush p x way n).2 = 0 ∨ (ppush p x way n).2 = 1 := by
  cases p with
  | click =>
    show n * (if way = 1 then 1 else 0) = 0 ∨ n * (if way = 1 then 1 else 0) = 1
    rcases hn with rfl | rfl
    · simp
    · split <;> simp
  | rocker =>
    simp only [ppush]
    split
    · simp
    · simp only
      split <;> simp
  | spring k =>
    have h1 : (1 : Int) ≤ k := hp.1
    have hx1 : 0 ≤ x := hx.1
    have hx2 : x < k := hx.2
    simp only [ppush]
    split
    · simp only
      have q0 : 0 ≤ (x + n) / k := Int.ediv_nonneg (by omega) (by omega)
      have q1 : (x + n) / k < 2 := Int.ediv_lt_of_lt_mul (by omega) (by omega)
      omega
    · simp
  | wheel z ms =>
    have h1 : (1 : Int) ≤ z := hp.1
    have hnd := nodup_lt hp.2.2.2
    have hx2 : x < z := hx.2
    have hbd : ∀ m ∈ ms, 0 ≤ m ∧ m < z := hp.2.2.1
    show (if way = 1 then wmet z ms x n else wleft z ms x n) = 0 ∨ (if way = 1 then wmet z ms x n else wleft z ms x n) = 1
    have hl := hp.2.2.len (by omega)
    by_cases hz : z = 1
    · subst hz
      have f1 : ∀ m : Int, (decide (0 < (m - x - 1) % 1 + 1) && decide ((m - x - 1) % 1 + 1 ≤ n % 1)) = false := fun m => by simp
      have f2 : ∀ m : Int, decide ((x - m) % 1 < n % 1) = false := fun m => by simp
      have e1 : wmet 1 ms x n = n * ms.length := by
        unfold wmet
        rw [List.filter_eq_nil_iff.mpr fun m _ => by rw [f1 m]; exact Bool.false_ne_true]
        simp
      have e2 : wleft 1 ms x n = n * ms.length := by
        unfold wleft
        rw [List.filter_eq_nil_iff.mpr fun m _ => by rw [f2 m]; exact Bool.false_ne_true]
        simp
      rw [e1, e2]
      rcases hn with rfl | rfl
      · simp
      · split <;> omega
    · have hd : n / z = 0 := Int.ediv_eq_zero_of_lt (by omega) (by omega)
      have hm : n % z = n := Int.emod_eq_of_lt (by omega) (by omega)
      have c1 : ((ms.filter fun m => decide (0 < (m - x - 1) % z + 1) && decide ((m - x - 1) % z + 1 ≤ n % z)).length) ≤ 1 := by
        refine filter_one hnd fun a ha b hb qa qb => ?_
        simp only [Bool.and_eq_true, decide_eq_true_iff] at qa qb
        rw [hm] at qa qb
        have ea : (a - x - 1) % z = 0 := by omega
        have eb : (b - x - 1) % z = 0 := by omega
        refine emod_one_eq (x := x + 1) (z := z) (by omega) (hbd a ha) (hbd b hb) ?_
        rw [show a - (x + 1) = a - x - 1 by omega, show b - (x + 1) = b - x - 1 by omega, ea, eb]
      have c2 : ((ms.filter fun m => decide ((x - m) % z < n % z)).length) ≤ 1 := by
        refine filter_one hnd fun a ha b hb qa qb => ?_
        simp only [decide_eq_true_iff] at qa qb
        rw [hm] at qa qb
        have pa := Int.emod_nonneg (x - a) (show z ≠ 0 by omega)
        have pb := Int.emod_nonneg (x - b) (show z ≠ 0 by omega)
        have ea : (x - a) % z = 0 := by omega
        have eb : (x - b) % z = 0 := by omega
        obtain ⟨c, hc⟩ := Int.dvd_of_emod_eq_zero ea
        obtain ⟨d, hd'⟩ := Int.dvd_of_emod_eq_zero eb
        refine emod_one_eq (x := x) (z := z) (by omega) (hbd a ha) (hbd b hb) ?_
        rw [show a - x = z * (-c) by rw [Int.mul_neg]; omega, show b - x = z * (-d) by rw [Int.mul_neg]; omega, Int.mul_emod_right, Int.mul_emod_right]
      unfold wmet wleft
      rw [hd, Int.zero_mul, Int.zero_add, Int.zero_add]
      split <;> omega
theorem pushF_unit : ∀ {T : List Part} {s : List Int} {way n : Int}, (∀ p ∈ T, p.ok) → standOk T s → isWay way → (n = 0 ∨ n = 1) → (pushF T s way n).2 = 0 ∨ (pushF T s way n).2 = 1
  | [], [], _, _, _, _, _, hn => hn
  | p :: T, x :: s, way, n, hT, hs, hw, hn =>
    pushF_unit (T := T) (s := s) (fun q hq => hT q (List.mem_cons_of_mem _ hq)) hs.2 hw (ppush_unit (hT p List.mem_cons_self) hs.1 hw hn)
  | [], _ :: _, _, _, _, h, _, _ => h.elim
  | _ :: _, [], _, _, _, h, _, _ => h.elim
theorem pushN_unit {T : List Part} {s : List Int} {i : Nat} {way : Int} (hT : ∀ p ∈ T, p.ok) (hs : standOk T s) (hw : isWay way) : unit3 (pushN T s i way 1).2 := by
  have := pushF_unit (T := T.drop i) (s := s.drop i) (n := 1) (fun p hp => hT p (List.mem_of_mem_drop hp)) (hs.drop i) hw (.inr rfl)
  show unit3 (way * (pushF (T.drop i) (s.drop i) way 1).2)
  unfold unit3
  rcases hw with rfl | rfl <;> rcases this with h | h <;> rw [h] <;> simp
theorem behindF_unit {T : List Part} (hT : ∀ p ∈ T, p.ok) : ∀ {xs : List Sh} {s : List Int}, standOk T s → (∀ x ∈ xs, shOk x) → ∀ v ∈ behindF T s xs, unit3 v
  | [], _, _, _, v, hv => by cases hv
  | x :: xs, s, hs, h, v, hv => by
    have hw := (h x List.mem_cons_self).1
    have hv' : v ∈ (pushN T s 0 x.1 1).2 :: behindF T (pushN T s 0 x.1 1).1 xs := hv
    rcases List.mem_cons.mp hv' with rfl | q
    · exact pushN_unit hT hs hw
    · exact behindF_unit hT (xs := xs) (pushN_ok hT hs hw (by decide)) (fun y hy => h y (List.mem_cons_of_mem _ hy)) v q
theorem ways_unit {xs : List Sh} (h : ∀ x ∈ xs, shOk x) : ∀ v ∈ xs.map (·.1), unit3 v := fun v hv => by
  obtain ⟨x, hx, rfl⟩ := List.mem_map.mp hv
  rcases (h x hx).1 with q | q
  · exact .inl q
  · exact .inr (.inl q)
section
variable {P : Program} {w : World} {K : PySem.W.Frag} {mg : Str → Option Value} {base : Heap}
def p_smallest (ds : List Sl) (r : PyData) : Prop := ∃ xs : List Sh, ds = [D (dShs xs)] ∧ (∀ x ∈ xs, shOk x) ∧ xs.length ≤ 30 ∧ r = dAns (smallA (xs.map (·.1)) xs)
/-! smallest -/
theorem sc_smallest : FnScope ["shows"] ["shows"] (defScope s_smallest) := ⟨rfl, rfl, rfl, by decide +kernel, rfl, by decide +kernel, by decide +kernel⟩
theorem ok_smallest {f f_check_shows f_smallest_by f_own_ways : Addr} {fd : FuncData} (F : FnP K "smallest" s_smallest f fd) (hm : mg "smallest" = some (.ref f)) (B : Frs mg) (h_check_shows : Has P w K mg base 3 "check_shows" ["shows"] p_check_shows f_check_shows) (h_smallest_by : Has P w K mg base 3 "smallest_by" ["ways", "shows"] p_smallest_by f_smallest_by) (h_own_ways : Has P w K mg base 1 "own_ways" ["shows"] p_own_ways f_own_ways)  : Has P w K mg base 4 "smallest" ["shows"] p_smallest f := by
  refine has_of F hm sc_smallest (fun ds r h => by obtain ⟨xs, rfl, hx0, hl, rfl⟩ := h; rfl) (fun _ _ _ _ _ _ us hl => match us, hl with | [_], _ => rfl) fun cdv A outer s H E ds r hr hp => ?_
  have hu := hr.u100
  obtain ⟨xs, rfl, hx0, hl, rfl⟩ := hp
  apply ends_rt
  refine pbd_drop (pd_call h_check_shows (hr.mono (by decide)) (pad_cons (pd_var 0 rfl) pad_nil) ⟨xs, rfl, hx0, by omega, rfl⟩) ?_
  exact b_ret (pd_call h_smallest_by (hr.mono (by decide)) (pad_cons (pd_call h_own_ways (hr.mono (by decide)) (pad_cons (pd_var 0 rfl) pad_nil) ⟨xs, rfl, by omega, rfl⟩) (pad_cons (pd_var 0 rfl) pad_nil)) ⟨xs.map (·.1), xs, rfl, by rw [List.length_map], hl, ways_unit hx0, rfl⟩) rfl
def p_is_smallest (ds : List Sl) (r : PyData) : Prop := ∃ (xs : List Sh) (a : Ans), ds = [D (dShs xs), D (dAns a)] ∧ (∀ x ∈ xs, shOk x) ∧ xs.length ≤ 30 ∧ SmallOk (xs.map (·.1)) xs a ∧ r = .bool true
/-! is_smallest -/
theorem sc_is_smallest : FnScope ["shows", "thing"] ["shows", "thing"] (defScope s_is_smallest) := ⟨rfl, rfl, rfl, by decide +kernel, rfl, by decide +kernel, by decide +kernel⟩
theorem ok_is_smallest {f f_check_shows f_is_smallest_by f_own_ways : Addr} {fd : FuncData} (F : FnP K "is_smallest" s_is_smallest f fd) (hm : mg "is_smallest" = some (.ref f)) (B : Frs mg) (h_check_shows : Has P w K mg base 3 "check_shows" ["shows"] p_check_shows f_check_shows) (h_is_smallest_by : Has P w K mg base 4 "is_smallest_by" ["ways", "shows", "thing"] p_is_smallest_by f_is_smallest_by) (h_own_ways : Has P w K mg base 1 "own_ways" ["shows"] p_own_ways f_own_ways)  : Has P w K mg base 5 "is_smallest" ["shows", "thing"] p_is_smallest f := by
  refine has_of F hm sc_is_smallest (fun ds r h => by obtain ⟨xs, a, rfl, hx0, hl, hA, rfl⟩ := h; rfl) (fun _ _ _ _ _ _ us hl => match us, hl with | [_, _], _ => rfl) fun cdv A outer s H E ds r hr hp => ?_
  have hu := hr.u100
  obtain ⟨xs, a, rfl, hx0, hl, hA, rfl⟩ := hp
  apply ends_rt
  refine pbd_drop (pd_call h_check_shows (hr.mono (by decide)) (pad_cons (pd_var 0 rfl) pad_nil) ⟨xs, rfl, hx0, by omega, rfl⟩) ?_
  exact b_ret (pd_call h_is_smallest_by (hr.mono (by decide)) (pad_cons (pd_call h_own_ways (hr.mono (by decide)) (pad_cons (pd_var 0 rfl) pad_nil) ⟨xs, rfl, by omega, rfl⟩) (pad_cons (pd_var 0 rfl) (pad_cons (pd_var 1 rfl) pad_nil))) ⟨xs.map (·.1), xs, a, rfl, by rw [List.length_map], by omega, hA, rfl⟩) rfl
def p_smallest_behind (ds : List Sl) (r : PyData) : Prop := ∃ (T : List Part) (s : List Int) (xs : List Sh), ds = [D (dTrain T), D (dStand s), D (dShs xs)] ∧ trainOk T ∧ standOk T s ∧ (∀ x ∈ xs, shOk x) ∧ xs.length ≤ 30 ∧ r = dAns (smallA (behindF T s xs) xs)
/-! smallest_behind -/
theorem sc_smallest_behind : FnScope ["train", "stand", "shows"] ["train", "stand", "shows"] (defScope s_smallest_behind) := ⟨rfl, rfl, rfl, by decide +kernel, rfl, by decide +kernel, by decide +kernel⟩
theorem ok_smallest_behind {f f_check_stand f_check_shows f_smallest_by f_ways_behind : Addr} {fd : FuncData} (F : FnP K "smallest_behind" s_smallest_behind f fd) (hm : mg "smallest_behind" = some (.ref f)) (B : Frs mg) (h_check_stand : Has P w K mg base 5 "check_stand" ["train", "stand"] p_check_stand f_check_stand) (h_check_shows : Has P w K mg base 3 "check_shows" ["shows"] p_check_shows f_check_shows) (h_smallest_by : Has P w K mg base 3 "smallest_by" ["ways", "shows"] p_smallest_by f_smallest_by) (h_ways_behind : Has P w K mg base 5 "ways_behind" ["train", "stand", "shows"] p_ways_behind f_ways_behind)  : Has P w K mg base 6 "smallest_behind" ["train", "stand", "shows"] p_smallest_behind f := by
  refine has_of F hm sc_smallest_behind (fun ds r h => by obtain ⟨T, s, xs, rfl, hT, hs, hx0, hl, rfl⟩ := h; rfl) (fun _ _ _ _ _ _ us hl => match us, hl with | [_, _, _], _ => rfl) fun cdv A outer s H E ds r hr hp => ?_
  have hu := hr.u100
  obtain ⟨T, s, xs, rfl, hT, hs, hx0, hl, rfl⟩ := hp
  apply ends_rt
  refine pbd_drop (pd_call h_check_stand (hr.mono (by decide)) (pad_cons (pd_var 0 rfl) (pad_cons (pd_var 1 rfl) pad_nil)) ⟨T, s, rfl, hT, hs, rfl⟩) ?_
  refine pbd_drop (pd_call h_check_shows (hr.mono (by decide)) (pad_cons (pd_var 2 rfl) pad_nil) ⟨xs, rfl, hx0, by omega, rfl⟩) ?_
  exact b_ret (pd_call h_smallest_by (hr.mono (by decide)) (pad_cons (pd_call h_ways_behind (hr.mono (by decide)) (pad_cons (pd_var 0 rfl) (pad_cons (pd_var 1 rfl) (pad_cons (pd_var 2 rfl) pad_nil))) ⟨T, s, xs, rfl, hT, hs, hx0, by omega, rfl⟩) (pad_cons (pd_var 2 rfl) pad_nil)) ⟨behindF T s xs, xs, rfl, behindF_len T xs s, hl, behindF_unit hT.2.2 hs hx0, rfl⟩) rfl
def p_is_smallest_behind (ds : List Sl) (r : PyData) : Prop := ∃ (T : List Part) (s : List Int) (xs : List Sh) (a : Ans), ds = [D (dTrain T), D (dStand s), D (dShs xs), D (dAns a)] ∧ trainOk T ∧ standOk T s ∧ (∀ x ∈ xs, shOk x) ∧ xs.length ≤ 30 ∧ SmallOk (behindF T s xs) xs a ∧ r = .bool true
/-! is_smallest_behind -/
theorem sc_is_smallest_behind : FnScope ["train", "stand", "shows", "thing"] ["train", "stand", "shows", "thing"] (defScope s_is_smallest_behind) := ⟨rfl, rfl, rfl, by decide +kernel, rfl, by decide +kernel, by decide +kernel⟩
theorem ok_is_smallest_behind {f f_check_stand f_check_shows f_is_smallest_by f_ways_behind : Addr} {fd : FuncData} (F : FnP K "is_smallest_behind" s_is_smallest_behind f fd) (hm : mg "is_smallest_behind" = some (.ref f)) (B : Frs mg) (h_check_stand : Has P w K mg base 5 "check_stand" ["train", "stand"] p_check_stand f_check_stand) (h_check_shows : Has P w K mg base 3 "check_shows" ["shows"] p_check_shows f_check_shows) (h_is_smallest_by : Has P w K mg base 4 "is_smallest_by" ["ways", "shows", "thing"] p_is_smallest_by f_is_smallest_by) (h_ways_behind : Has P w K mg base 5 "ways_behind" ["train", "stand", "shows"] p_ways_behind f_ways_behind)  : Has P w K mg base 6 "is_smallest_behind" ["train", "stand", "shows", "thing"] p_is_smallest_behind f := by
  refine has_of F hm sc_is_smallest_behind (fun ds r h => by obtain ⟨T, s, xs, a, rfl, hT, hs, hx0, hl, hA, rfl⟩ := h; rfl) (fun _ _ _ _ _ _ us hl => match us, hl with | [_, _, _, _], _ => rfl) fun cdv A outer s H E ds r hr hp => ?_
  have hu := hr.u100
  obtain ⟨T, s, xs, a, rfl, hT, hs, hx0, hl, hA, rfl⟩ := hp
  apply ends_rt
  refine pbd_drop (pd_call h_check_stand (hr.mono (by decide)) (pad_cons (pd_var 0 rfl) (pad_cons (pd_var 1 rfl) pad_nil)) ⟨T, s, rfl, hT, hs, rfl⟩) ?_
  refine pbd_drop (pd_call h_check_shows (hr.mono (by decide)) (pad_cons (pd_var 2 rfl) pad_nil) ⟨xs, rfl, hx0, by omega, rfl⟩) ?_
  exact b_ret (pd_call h_is_smallest_by (hr.mono (by decide)) (pad_cons (pd_call h_ways_behind (hr.mono (by decide)) (pad_cons (pd_var 0 rfl) (pad_cons (pd_var 1 rfl) (pad_cons (pd_var 2 rfl) pad_nil))) ⟨T, s, xs, rfl, hT, hs, hx0, by omega, rfl⟩) (pad_cons (pd_var 2 rfl) (pad_cons (pd_var 3 rfl) pad_nil))) ⟨behindF T s xs, xs, a, rfl, behindF_len T xs s, by omega, hA, rfl⟩) rfl
end
end Ct

-- M8
set_option Elab.async false
set_option linter.all false
set_option maxRecDepth 100000
set_option maxHeartbeats 1000000
/-! M8: what is written, sign by sign. -/
namespace Ct
open PySem SX
abbrev Ls := List Nat
def num (i : Int) : Ls := TL.numL i.toNat
def sm (i : Int) : Prop := 0 ≤ i ∧ i < 1000000000
theorem num_str {i : Int} (h : 0 ≤ i) : Str.ofString (toString i) = S (num i) := by
  refine TL.ext_tl ?_
  have : i = ((i.toNat : Nat) : Int) := by omega
  rw [this, TL.tl_num]
  rfl
theorem num_digit {i : Int} {c : Nat} (h : c ∈ num i) : 48 ≤ c ∧ c ≤ 57 := TL.numL_digits _ c h
theorem num_len {i : Int} (h : sm i) : (num i).length ≤ 9 := TL.numL_len (by decide) (by have := h.2; show i.toNat < 10 ^ 9; omega)
theorem num_ne (i : Int) : num i ≠ [] := TL.numL_ne _
theorem num_head {i : Int} (h : 0 ≤ i) : i = 0 ∧ num i = [48] ∨ ∃ c r, num i = c :: r ∧ c ≠ 48 := by
  have key : ∀ n : Nat, n = 0 ∧ TL.numL n = [48] ∨ ∃ c r, TL.numL n = c :: r ∧ c ≠ 48 := fun n => by
    induction n using Nat.strongRecOn with
    | _ n ih =>
      by_cases h : n < 10
      · rw [TL.numL_lt h]
        by_cases h0 : n = 0
        · subst h0; exact .inl ⟨rfl, rfl⟩
        · exact .inr ⟨48 + n, [], rfl, by omega⟩
      · rw [TL.numL_step (by omega)]
        rcases ih (n / 10) (by omega) with ⟨q, _⟩ | ⟨c, r, e, hc⟩
        · omega
        · exact .inr ⟨c, r ++ [48 + n % 10], by rw [e]; rfl, hc⟩
  rcases key i.toNat with ⟨q, e⟩ | q
  · exact .inl ⟨by omega, e⟩
  · exact .inr q
theorem num_int {i : Int} (h : sm i) : PySem.intText? (S (num i)) = some i := by
  rw [← num_str h.1]
  have : i = ((i.toNat : Nat) : Int) := by have := h.1; omega
  rw [this]
  have hl := num_len h
  exact TL.int_num (by unfold num at hl; omega)
/-! ### joined -/
theorem mem_joinL {sep : Ls} {c : Nat} : ∀ {ps : List Ls}, c ∈ TL.joinL sep ps → c ∈ sep ∨ ∃ p ∈ ps, c ∈ p
  | [], h => by simp [TL.joinL] at h
  | [p], h => .inr ⟨p, List.mem_cons_self, by simpa [TL.joinL] using h⟩
  | p :: q :: ps, h => by
    have h' : c ∈ p ++ sep ++ TL.joinL sep (q :: ps) := by
      simpa [TL.joinL, List.append_assoc] using h
    rcases List.mem_append.mp h' with h1 | h1
    · rcases List.mem_append.mp h1 with h2 | h2
      · exact .inr ⟨p, List.mem_cons_self, h2⟩
      · exact .inl h2
    · rcases mem_joinL h1 with h2 | ⟨r, hr, h2⟩
      · exact .inl h2
      · exact .inr ⟨r, List.mem_cons_of_mem _ hr, h2⟩
theorem joinL_len {sep : Ls} {B : Nat} : ∀ {ps : List Ls}, (∀ p ∈ ps, p.length ≤ B) → (TL.joinL sep ps).length ≤ ps.length * (B + sep.length)
  | [], _ => by simp [TL.joinL]
  | [p], h => by
    have := h p List.mem_cons_self
    simp only [TL.joinL, List.length_cons, List.length_nil]
    omega
  | p :: q :: ps, h => by
    have h1 := h p List.mem_cons_self
    have h2 := joinL_len (sep := sep) (ps := q :: ps) fun r hr => h r (List.mem_cons_of_mem _ hr)
    have e : TL.joinL sep (p :: q :: ps) = p ++ (sep ++ TL.joinL sep (q :: ps)) := by simp [TL.joinL]
    rw [e, List.length_append, List.length_append]
    have e2 : (p :: q :: ps).length * (B + sep.length) = (q :: ps).length * (B + sep.length) + (B + sep.length) := by
      rw [List.length_cons, Nat.add_mul, Nat.one_mul]
    rw [e2]; omega
theorem joinL_ne {sep : Ls} {p : Ls} {ps : List Ls} (h : p ≠ []) : TL.joinL sep (p :: ps) ≠ [] := by
  cases ps with
  | nil => simpa [TL.joinL] using h
  | cons q ps => simp [TL.joinL, h]
theorem sum_le {B : Nat} : ∀ {ps : List Ls}, (∀ p ∈ ps, p.length ≤ B) → ((ps.map S).map (·.length)).sum ≤ ps.length * B
  | [], _ => Nat.zero_le _
  | p :: ps, h => by
    have h1 := h p List.mem_cons_self
    have h2 := sum_le (ps := ps) fun q hq => h q (List.mem_cons_of_mem _ hq)
    simp only [List.map_cons, List.sum_cons, S_len, List.length_cons, Nat.add_mul, Nat.one_mul] at h2 ⊢
    omega
/-! ### what is written -/
def tStand (s : List Int) : Ls := TL.joinL [47] (s.map num)
def tPart : Part → Ls
  | .wheel z ms => [119] ++ num z ++ [58] ++ TL.joinL [44] (ms.map num)
  | .click => [99]
  | .rocker => [114]
  | .spring k => [115] ++ num k
def tTrain (T : List Part) : Ls := TL.joinL [32] (T.map tPart)
def tWay (w : Int) : Ls := [if w = 1 then 43 else 45]
def tStep (deed : Bool) (p : Stp) : Ls := num p.1 ++ tWay p.2.1 ++ (if deed then num p.2.2 else [])
def tListed (ws : List Ls) : Ls := if ws = [] then [110, 111, 110, 101] else TL.joinL [32] ws
def tUnit (v : Int) : Ls := if v = 1 then [49] else if v = 0 then [48] else [45, 49]
def tSn (x : Sn) : Ls := num x.1 ++ tWay x.2.1 ++ [61] ++ tUnit x.2.2
def tSh (x : Sh) : Ls := tWay x.1 ++ [61] ++ tUnit x.2
def tPr (p : Pr) : Ls := tStand p.1 ++ [126] ++ tStand p.2
def tBar (b : Int × Int) : Ls := num b.1 ++ [126] ++ num b.2
def tNum (n : List Int × Int) : Ls := tStand n.1 ++ [58] ++ num n.2
def tAns : Ans → Ls
  | .alike ps => [97, 108, 105, 107, 101, 32] ++ tListed (ps.map tPr)
  | .apart ws => [97, 112, 97, 114, 116, 32] ++ ws.flatMap tWay
  | .never ss => [110, 101, 118, 101, 114, 32] ++ tListed (ss.map tStand)
  | .row deed p ns => [114, 111, 119, 32] ++ tListed (p.map (tStep deed)) ++ [59, 32] ++ tListed (ns.map tNum)
  | .wheel z ms bars => [119, 104, 101, 101, 108, 32] ++ TL.joinL [32] (tPart (.wheel z ms) :: bars.map tBar)
  | .none_ j k => [110, 111, 110, 101, 32] ++ num j ++ [32] ++ num k
/-! ### the signs -/
theorem tStand_mem {s : List Int} {c : Nat} (h : c ∈ tStand s) : c = 47 ∨ (48 ≤ c ∧ c ≤ 57) := by
  rcases mem_joinL h with h | ⟨p, hp, h⟩
  · exact .inl (List.mem_singleton.mp h)
  · obtain ⟨i, _, rfl⟩ := List.mem_map.mp hp
    exact .inr (num_digit h)
theorem tPart_mem {p : Part} {c : Nat} (h : c ∈ tPart p) : c = 119 ∨ c = 58 ∨ c = 44 ∨ c = 99 ∨ c = 114 ∨ c = 115 ∨ (48 ≤ c ∧ c ≤ 57) := by
  cases p with
  | wheel z ms =>
    simp only [tPart, List.mem_append, List.mem_singleton] at h
    rcases h with ((h | h) | h) | h
    · exact .inl h
    · have := num_digit h; omega
    · exact .inr (.inl h)
    · rcases mem_joinL h with h | ⟨p, hp, h⟩
      · have := List.mem_singleton.mp h; omega
      · obtain ⟨i, _, rfl⟩ := List.mem_map.mp hp
        have := num_digit h; omega
  | click => simp only [tPart, List.mem_singleton] at h; omega
  | rocker => simp only [tPart, List.mem_singleton] at h; omega
  | spring k =>
    simp only [tPart, List.mem_append, List.mem_singleton] at h
    rcases h with h | h
    · omega
    · have := num_digit h; omega
theorem tWay_mem {w : Int} {c : Nat} (h : c ∈ tWay w) : c = 43 ∨ c = 45 := by
  unfold tWay at h
  rw [List.mem_singleton] at h
  split at h <;> omega
theorem tStep_mem {deed : Bool} {p : Stp} {c : Nat} (h : c ∈ tStep deed p) : c = 43 ∨ c = 45 ∨ (48 ≤ c ∧ c ≤ 57) := by
  unfold tStep at h
  rcases List.mem_append.mp h with h | h
  · rcases List.mem_append.mp h with h | h
    · have := num_digit h; omega
    · have := tWay_mem h; omega
  · cases deed with
    | true => have := num_digit (show c ∈ num p.2.2 from h); omega
    | false => cases h
theorem tUnit_mem {v : Int} {c : Nat} (h : c ∈ tUnit v) : c = 45 ∨ c = 48 ∨ c = 49 := by
  unfold tUnit at h
  split at h
  · simp at h; omega
  · split at h
    · simp at h; omega
    · simp at h; omega
theorem tSn_mem {x : Sn} {c : Nat} (h : c ∈ tSn x) : c = 43 ∨ c = 45 ∨ c = 61 ∨ (48 ≤ c ∧ c ≤ 57) := by
  unfold tSn at h
  simp only [List.mem_append, List.mem_singleton] at h
  rcases h with ((h | h) | h) | h
  · have := num_digit h; omega
  · have := tWay_mem h; omega
  · omega
  · have := tUnit_mem h; omega
theorem tSh_mem {x : Sh} {c : Nat} (h : c ∈ tSh x) : c = 43 ∨ c = 45 ∨ c = 61 ∨ (48 ≤ c ∧ c ≤ 57) := by
  unfold tSh at h
  simp only [List.mem_append, List.mem_singleton] at h
  rcases h with (h | h) | h
  · have := tWay_mem h; omega
  · omega
  · have := tUnit_mem h; omega
theorem tPr_mem {p : Pr} {c : Nat} (h : c ∈ tPr p) : c = 126 ∨ c = 47 ∨ (48 ≤ c ∧ c ≤ 57) := by
  unfold tPr at h
  simp only [List.mem_append, List.mem_singleton] at h
  rcases h with (h | h) | h
  · have := tStand_mem h; omega
  · omega
  · have := tStand_mem h; omega
theorem tBar_mem {b : Int × Int} {c : Nat} (h : c ∈ tBar b) : c = 126 ∨ (48 ≤ c ∧ c ≤ 57) := by
  unfold tBar at h
  simp only [List.mem_append, List.mem_singleton] at h
  rcases h with (h | h) | h
  · have := num_digit h; omega
  · omega
  · have := num_digit h; omega
theorem tNum_mem {b : List Int × Int} {c : Nat} (h : c ∈ tNum b) : c = 58 ∨ c = 47 ∨ (48 ≤ c ∧ c ≤ 57) := by
  unfold tNum at h
  simp only [List.mem_append, List.mem_singleton] at h
  rcases h with (h | h) | h
  · have := tStand_mem h; omega
  · omega
  · have := num_digit h; omega
theorem tListed_mem {ws : List Ls} {c : Nat} (h : c ∈ tListed ws) : c = 110 ∨ c = 111 ∨ c = 101 ∨ c = 32 ∨ ∃ p ∈ ws, c ∈ p := by
  unfold tListed at h
  split at h
  · simp only [List.mem_cons, List.not_mem_nil, or_false] at h; omega
  · rcases mem_joinL h with h | h
    · have := List.mem_singleton.mp h; omega
    · exact .inr (.inr (.inr (.inr h)))
/-! ### the lengths -/
theorem tStand_len {s : List Int} (h : ∀ i ∈ s, sm i) : (tStand s).length ≤ s.length * 10 := by
  have := joinL_len (sep := [47]) (B := 9) (ps := s.map num) fun p hp => by
    obtain ⟨i, hi, rfl⟩ := List.mem_map.mp hp
    exact num_len (h i hi)
  rw [List.length_map] at this
  exact this
theorem Asc.of {l : Ls} (h : ∀ c ∈ l, c < 128) : Asc (S l) := h
end Ct

-- W15
set_option Elab.async false
set_option linter.all false
set_option maxRecDepth 100000
set_option maxHeartbeats 1000000
/-! W15: texts.py: numbers, ways, lists, stands (printed by gen2.py from W15.src). -/
namespace Ct
open PySem PySem.Spec L2 SX
theorem sm_log {i : Int} (h : sm i) : i.natAbs.log2 < 1920 := by
  by_cases h0 : i.natAbs = 0
  · rw [h0]; decide
  · rw [Nat.log2_lt h0]
    have h1 := h.1
    have h2 := h.2
    have : i.natAbs < 2 ^ 30 := by omega
    exact Nat.lt_of_lt_of_le this (Nat.pow_le_pow_right (by decide) (by decide))
theorem eqv_S (l m : Ls) {x : Str} (h : x = S m) : PyData.eqv (.str (S l)) (.str x) = decide (l = m) := by
  rw [eqv_str, h]
  by_cases e : l = m
  · subst e; simp
  · rw [decide_eq_false e, decide_eq_false fun q => e (S_inj q)]
theorem cutS_S (l : Ls) (lo hi : Option Int) : cutS (S l) lo hi = S ((l.drop (HT.sIx l.length 0 lo)).take (HT.sIx l.length l.length hi - HT.sIx l.length 0 lo)) := by
  unfold cutS
  rw [S_len]
theorem cut_from {l : Ls} {k : Nat} (h : k ≤ l.length) : cutS (S l) (some (k : Int)) none = S (l.drop k) := by
  rw [cutS_S, HT.sIx_none, HT.sIx_nat, Nat.min_eq_left h, List.take_of_length_le (by rw [List.length_drop]; omega)]
theorem cut_to {l : Ls} {k : Nat} (h : k ≤ l.length) : cutS (S l) none (some (k : Int)) = S (l.take k) := by
  rw [cutS_S, HT.sIx_none, HT.sIx_nat, Nat.min_eq_left h, List.drop_zero, Nat.sub_zero]
theorem sIx_m1 (n d : Nat) : HT.sIx n d (some (-1)) = n - 1 := by
  show (if (-1 : Int) < 0 then ((-1 : Int) + (n : Int)).toNat else min (-1 : Int).toNat n) = n - 1
  rw [if_pos (by decide)]
  omega
theorem cut_but {l : Ls} {c : Nat} : cutS (S (l ++ [c])) none (some (-1)) = S l := by
  rw [cutS_S, HT.sIx_none, sIx_m1, List.drop_zero, List.length_append, List.length_singleton, Nat.add_sub_cancel, Nat.sub_zero, List.take_left' rfl]
theorem cut_end {l : Ls} {c : Nat} : cutS (S (l ++ [c])) (some (-1)) none = S [c] := by
  rw [cutS_S, HT.sIx_none, sIx_m1, List.length_append, List.length_singleton, Nat.add_sub_cancel, List.drop_left' rfl]
  rw [List.take_of_length_le (by simp)]
theorem S_size {l : Ls} (h : l.length ≤ 10000000) : (S l).length ≤ sizeLine := by
  have : sizeLine = 2 ^ 24 := rfl
  rw [S_len]; omega
theorem fig_mem {c : Nat} (h : 48 ≤ c ∧ c ≤ 57) : c ∈ ("0123456789" : Str).cps.toList := by
  have : ("0123456789" : Str).cps.toList = [48, 49, 50, 51, 52, 53, 54, 55, 56, 57] := by decide +kernel
  rw [this]
  simp only [List.mem_cons, List.not_mem_nil, or_false]
  omega
section
variable {P : Program} {w : World} {K : PySem.W.Frag} {mg : Str → Option Value} {base : Heap}
def p_sure (ds : List Sl) (r : PyData) : Prop := ds = [D (.bool true)] ∧ r = .none
/-! sure -/
theorem sc_sure : FnScope ["good"] ["good"] (defScope s_sure) := ⟨rfl, rfl, rfl, by decide +kernel, rfl, by decide +kernel, by decide +kernel⟩
theorem ok_sure {f  : Addr} {fd : FuncData} (F : FnP K "sure" s_sure f fd) (hm : mg "sure" = some (.ref f)) (B : Frs mg)   : Has P w K mg base 1 "sure" ["good"] p_sure f := by
  refine has_of F hm sc_sure (fun ds r h => by obtain ⟨rfl, rfl⟩ := h; rfl) (fun _ _ _ _ _ _ us hl => match us, hl with | [_], _ => rfl) fun cdv A outer s H E ds r hr hp => ?_
  have hu := hr.u100
  obtain ⟨rfl, rfl⟩ := hp
  apply ends_nx
  exact b_no (ptd_not (ptd_val (pd_var 0 rfl))) rfl pbd_end
def p_count_in (ds : List Sl) (r : PyData) : Prop := ∃ i : Int, ds = [D (.str (S (num i)))] ∧ sm i ∧ r = .int i
/-! count_in -/
theorem sc_count_in : FnScope ["word", "sign"] ["word"] (defScope s_count_in) := ⟨rfl, rfl, rfl, by decide +kernel, rfl, by decide +kernel, by decide +kernel⟩
theorem ok_count_in {f f_sure : Addr} {fd : FuncData} (F : FnP K "count_in" s_count_in f fd) (hm : mg "count_in" = some (.ref f)) (B : Frs mg) (h_sure : Has P w K mg base 1 "sure" ["good"] p_sure f_sure) (C : Cs mg) : Has P w K mg base 2 "count_in" ["word"] p_count_in f := by
  refine has_of F hm sc_count_in (fun ds r h => by obtain ⟨i, rfl, hi, rfl⟩ := h; rfl) (fun _ _ _ _ _ _ us hl => match us, hl with | [_], _ => rfl) fun cdv A outer s H E ds r hr hp => ?_
  have hu := hr.u100
  obtain ⟨i, rfl, hi, rfl⟩ := hp
  apply ends_rt
  obtain ⟨tf, hfig⟩ := C.figs
  obtain ⟨tl, hlong⟩ := C.longest
  have hlen := num_len hi
  have hne := num_ne i
  have hpos : 0 < (num i).length := List.length_pos_iff.mpr hne
  have hz : (S (num i)).length ≤ sizeLine := S_size (by omega)
  haveI : Ly (.str (S (num i))) 0 := (Asc.of fun c hc => by have := num_digit hc; omega).ly
  refine pbd_drop (pd_call h_sure (hr.mono (by decide)) (pad_cons (e_andT (pd_chain hu pd_int (pd_len B.len (pd_var 0 rfl) (.str hz)) (pd_gint rfl hlong) .le .le) ?_ (e_one (pd_allM [("sign", 1)] (num i) (fun c => .str ⟨#[c]⟩) (fun _ => true) rfl B.all sc_count_in.nd (PID.eq (pid_str (pd_var 0 rfl)) rfl) (blkOk_by (N := ["word", "sign"]) (own := [("sign", 1)]) (sc := defScope s_count_in) (by decide +kernel)) (fun c hc => ⟨_, fun _ _ _ _ _ => pgw_name 1 sc_count_in.nd, fun _ _ _ _ _ => PED.eq (pd_cmp hu (pd_var 1 rfl) (pd_gstr rfl hfig) .inS) (congrArg PyData.bool (decide_eq_true (fig_mem (num_digit hc)))), rfl⟩) (small_size (by omega))))) pad_nil) ⟨by rw [List.all_eq_true.mpr fun _ _ => rfl], rfl⟩) ?_
  · rw [S_len, decide_eq_true (show (1 : Int) ≤ ((num i).length : Int) by omega), decide_eq_true (show ((num i).length : Int) ≤ 40 by omega)]
    rfl
  obtain ⟨c, cs, ec⟩ : ∃ c cs, num i = c :: cs := by
    cases e : num i with
    | nil => exact absurd e hne
    | cons c cs => exact ⟨c, cs, rfl⟩
  haveI : Ly (.str ⟨#[c]⟩) 0 := (Asc.of (l := [c]) fun x hx => by
    rw [List.mem_singleton] at hx
    have := num_digit (i := i) (c := c) (by rw [ec]; exact List.mem_cons_self)
    omega).ly
  have hat : atI (S (num i)).cps.toList 0 = some c := by
    show atI (num i) 0 = some c
    rw [ec]; exact atI_zero
  have e1 : PyData.eqv (.str ⟨#[c]⟩) (.str "0") = decide ([c] = [48]) := eqv_S [c] [48] rfl
  have e2 : PyData.eqv (.str (S (num i))) (.str "0") = decide (num i = [48]) := eqv_S (num i) [48] rfl
  refine pbd_drop (pd_call h_sure (hr.mono (by decide)) (pad_cons (pd_or (pd_cmp hu (pd_ix (pd_var 0 rfl) pd_int (.str hz hat)) pd_str (.ne Ly.shp Ly.shp)) fun _ => (pd_one (pd_cmp hu (pd_var 0 rfl) pd_str (.eq Ly.shp Ly.shp)))) pad_nil) ⟨?_, rfl⟩) ?_
  · rw [e1, e2]
    have : (!decide ([c] = [48]) || decide (num i = [48])) = true := by
      rcases num_head hi.1 with ⟨_, q⟩ | ⟨c', r, q, hc⟩
      · rw [decide_eq_true q, Bool.or_true]
      · rw [q] at ec
        cases ec
        have : ¬ ([c] = [48]) := by simp; exact hc
        rw [decide_eq_false this]; rfl
    rw [this]
  exact b_ret (pd_intS B.int (pd_var 0 rfl) (num_int hi) (by rw [S_len]; omega)) rfl
def p_way_in (ds : List Sl) (r : PyData) : Prop := ∃ wy : Int, ds = [D (.str (S (tWay wy)))] ∧ isWay wy ∧ r = .int wy
/-! way_in -/
theorem sc_way_in : FnScope ["word"] ["word"] (defScope s_way_in) := ⟨rfl, rfl, rfl, by decide +kernel, rfl, by decide +kernel, by decide +kernel⟩
theorem ok_way_in {f f_sure : Addr} {fd : FuncData} (F : FnP K "way_in" s_way_in f fd) (hm : mg "way_in" = some (.ref f)) (B : Frs mg) (h_sure : Has P w K mg base 1 "sure" ["good"] p_sure f_sure)  : Has P w K mg base 2 "way_in" ["word"] p_way_in f := by
  refine has_of F hm sc_way_in (fun ds r h => by obtain ⟨wy, rfl, hw, rfl⟩ := h; rfl) (fun _ _ _ _ _ _ us hl => match us, hl with | [_], _ => rfl) fun cdv A outer s H E ds r hr hp => ?_
  have hu := hr.u100
  obtain ⟨wy, rfl, hw, rfl⟩ := hp
  apply ends_rt
  rcases hw with rfl | rfl
  · haveI : Ly (.str (S (tWay 1))) 0 := ⟨.str (by decide +kernel)⟩
    refine pbd_drop (pd_call h_sure (hr.mono (by decide)) (pad_cons (pd_or (pd_cmp hu (pd_var 0 rfl) pd_str (.eq Ly.shp Ly.shp)) fun _ => (pd_one (pd_cmp hu (pd_var 0 rfl) pd_str (.eq Ly.shp Ly.shp)))) pad_nil) ⟨by rw [show PyData.eqv (.str (S (tWay 1))) (.str "+") = true by rw [eqv_str]; decide +kernel]; rfl, rfl⟩) ?_
    have e : PyData.eqv (.str (S (tWay 1))) (.str "-") = false := by rw [eqv_str]; decide +kernel
    refine b_ret (pd_ix (pd_lst (ps := [_, _]) (pad_cons pd_int (pad_cons (pd_bin pd_int pd_int .subI) pad_nil))) (pd_intB B.int (pd_cmp hu (pd_var 0 rfl) pd_str (.eq Ly.shp Ly.shp))) (.lst (show _ = some (PyData.int 1) by rw [e]; rfl))) rfl
  · haveI : Ly (.str (S (tWay (-1)))) 0 := ⟨.str (by decide +kernel)⟩
    refine pbd_drop (pd_call h_sure (hr.mono (by decide)) (pad_cons (pd_or (pd_cmp hu (pd_var 0 rfl) pd_str (.eq Ly.shp Ly.shp)) fun _ => (pd_one (pd_cmp hu (pd_var 0 rfl) pd_str (.eq Ly.shp Ly.shp)))) pad_nil) ⟨by rw [show PyData.eqv (.str (S (tWay (-1)))) (.str "-") = true by rw [eqv_str]; decide +kernel, Bool.or_true], rfl⟩) ?_
    have e : PyData.eqv (.str (S (tWay (-1)))) (.str "-") = true := by rw [eqv_str]; decide +kernel
    refine b_ret (pd_ix (pd_lst (ps := [_, _]) (pad_cons pd_int (pad_cons (pd_bin pd_int pd_int .subI) pad_nil))) (pd_intB B.int (pd_cmp hu (pd_var 0 rfl) pd_str (.eq Ly.shp Ly.shp))) (.lst (show _ = some (PyData.int (0 - 1)) by rw [e]; rfl))) rfl
def p_way_shown (ds : List Sl) (r : PyData) : Prop := ∃ wy : Int, ds = [D (.int wy)] ∧ isWay wy ∧ r = .str (S (tWay wy))
/-! way_shown -/
theorem sc_way_shown : FnScope ["way"] ["way"] (defScope s_way_shown) := ⟨rfl, rfl, rfl, by decide +kernel, rfl, by decide +kernel, by decide +kernel⟩
theorem ok_way_shown {f  : Addr} {fd : FuncData} (F : FnP K "way_shown" s_way_shown f fd) (hm : mg "way_shown" = some (.ref f)) (B : Frs mg)   : Has P w K mg base 1 "way_shown" ["way"] p_way_shown f := by
  refine has_of F hm sc_way_shown (fun ds r h => by obtain ⟨wy, rfl, hw, rfl⟩ := h; rfl) (fun _ _ _ _ _ _ us hl => match us, hl with | [_], _ => rfl) fun cdv A outer s H E ds r hr hp => ?_
  have hu := hr.u100
  obtain ⟨wy, rfl, hw, rfl⟩ := hp
  apply ends_rt
  have hz : ("-+" : Str).length ≤ sizeLine := by decide +kernel
  rcases hw with rfl | rfl
  · refine b_ret (pd_ix pd_str (pd_intB B.int (pd_cmp hu (pd_var 0 rfl) pd_int (.eq Ly.shp Ly.shp))) (.str hz (show _ = some 43 by rw [eqv_int]; decide +kernel))) rfl
  · refine b_ret (pd_ix pd_str (pd_intB B.int (pd_cmp hu (pd_var 0 rfl) pd_int (.eq Ly.shp Ly.shp))) (.str hz (show _ = some 45 by rw [eqv_int]; decide +kernel))) rfl
end
end Ct

-- W16
set_option Elab.async false
set_option linter.all false
set_option maxRecDepth 100000
set_option maxHeartbeats 1000000
/-! W16: texts.py: lists of words, stands, parts, trains (printed by gen2.py from W16.src). -/
namespace Ct
open PySem PySem.Spec L2 SX
section
variable {X : Cx} {a b : Expr} {δ δ1 δ2 : List Sl} {apos pos : Pos}
theorem pd_joinS {α : Type} {sep : Ls} {xs : List α} {t : α → Ls} {z : Str} (ha : PED X δ a (D (.str z)) δ1) (hb : PED X δ1 b (D (.list (xs.map fun x => .str (S (t x))))) δ2) (h : z = S sep ∧ ∃ B, (∀ x ∈ xs, (t x).length ≤ B) ∧ xs.length * (B + sep.length) ≤ 16777216)
    (hs : starEach [b] X.env = [(false, eval b X.env)] := by rfl) (hbase : attributeBase a "join" X.env (eval a X.env) = eval a X.env := by rfl) (hline : (apos.endLine == pos.line) = true := by rfl) :
    PED X δ (.Call (.Attribute a "join" apos) [b] [] pos) (D (.str (S (TL.joinL sep (xs.map t))))) δ2 := by
  obtain ⟨rfl, B, hB, hz⟩ := h
  have e : xs.map (fun x => PyData.str (S (t x))) = ((xs.map t).map S).map .str := by rw [List.map_map, List.map_map]; rfl
  rw [e] at hb
  refine PED.eq (pd_join ha hb ?_ hs hbase hline) (by rw [join_S])
  have h1 := sum_le (ps := xs.map t) (B := B) fun p hp => by
    obtain ⟨x, hx, rfl⟩ := List.mem_map.mp hp
    exact hB x hx
  rw [List.length_map] at h1
  rw [List.length_map, List.length_map, S_len]
  rw [Nat.mul_add] at hz
  omega
theorem pd_splitS {ws : List Ls} {c : Nat} {z y : Str} (ha : PED X δ a (D (.str z)) δ1) (hb : PED X δ1 b (D (.str y)) δ2) (h : z = S (TL.joinL [c] ws) ∧ y = S [c] ∧ c < 256 ∧ ws ≠ [] ∧ (∀ w ∈ ws, c ∉ w) ∧ (TL.joinL [c] ws).length ≤ 10000000)
    (hs : starEach [b] X.env = [(false, eval b X.env)] := by rfl) (hbase : attributeBase a "split" X.env (eval a X.env) = eval a X.env := by rfl) (hline : (apos.endLine == pos.line) = true := by rfl) :
    PED X δ (.Call (.Attribute a "split" apos) [b] [] pos) (D (.list (ws.map fun w => .str (S w)))) δ2 := by
  obtain ⟨rfl, rfl, hc, hne, hf, hl⟩ := h
  refine PED.eq (pd_split ha hb (by rw [S_len]; rfl) (by rw [S_len]; have : sizeLine = 2 ^ 24 := rfl; omega) hs hbase hline) ?_
  rw [split_S (by simp) (by simp [hc]), spl_join hne hf, List.map_map]
  rfl
theorem pd_partS {p q : Ls} {c : Nat} {z y : Str} (ha : PED X δ a (D (.str z)) δ1) (hb : PED X δ1 b (D (.str y)) δ2) (h : z = S (p ++ [c] ++ q) ∧ y = S [c] ∧ c ∉ p ∧ (p ++ [c] ++ q).length ≤ 10000000)
    (hs : starEach [b] X.env = [(false, eval b X.env)] := by rfl) (hbase : attributeBase a "partition" X.env (eval a X.env) = eval a X.env := by rfl) (hline : (apos.endLine == pos.line) = true := by rfl) :
    PED X δ (.Call (.Attribute a "partition" apos) [b] [] pos) (D (.tuple [.str (S p), .str (S [c]), .str (S q)])) δ2 := by
  obtain ⟨rfl, rfl, hf, hl⟩ := h
  refine PED.eq (pd_partition ha hb (by rw [S_len]; rfl) (S_size hl) hs hbase hline) ?_
  have e : TL.par [c] [] (p ++ [c] ++ q) = some (p, q) := by
    rw [List.append_assoc]
    exact par_head q hf
  rw [SX.partition_some (by simp) e]
end
def dStrs (ws : List Ls) : List PyData := ws.map fun w => .str (S w)
def Plain (ws : List Ls) : Prop := ∀ w ∈ ws, ∀ c ∈ w, c < 128
section
variable {P : Program} {w : World} {K : PySem.W.Frag} {mg : Str → Option Value} {base : Heap}
def p_listed (ds : List Sl) (r : PyData) : Prop := ∃ ws : List Ls, ds = [D (.list (dStrs ws))] ∧ Plain ws ∧ (∃ B, (∀ w ∈ ws, w.length ≤ B) ∧ ws.length * (B + 1) ≤ 10000000) ∧ r = .str (S (tListed ws))
/-! listed -/
theorem sc_listed : FnScope ["words"] ["words"] (defScope s_listed) := ⟨rfl, rfl, rfl, by decide +kernel, rfl, by decide +kernel, by decide +kernel⟩
theorem ok_listed {f  : Addr} {fd : FuncData} (F : FnP K "listed" s_listed f fd) (hm : mg "listed" = some (.ref f)) (B : Frs mg)   : Has P w K mg base 1 "listed" ["words"] p_listed f := by
  refine has_of F hm sc_listed (fun ds r h => by obtain ⟨ws, rfl, hp, ⟨B, hB, hz⟩, rfl⟩ := h; rfl) (fun _ _ _ _ _ _ us hl => match us, hl with | [_], _ => rfl) fun cdv A outer s H E ds r hr hp => ?_
  have hu := hr.u100
  obtain ⟨ws, rfl, hp, ⟨B, hB, hz⟩, rfl⟩ := hp
  apply ends_rt
  haveI : Ly (.list (dStrs ws)) 1 := ⟨.list fun d hd => by
    obtain ⟨v, hv, rfl⟩ := List.mem_map.mp hd
    exact (Asc.of (hp v hv)).ly.out⟩
  cases ws with
  | nil =>
    refine b_ifT (ptd_cmp hu (pd_var 0 rfl) (pd_lst (ps := []) pad_nil) (.eq Ly.shp Ly.shp)) (by simp [dStrs, PyData.eqv, PyData.eqvAll]) ?_
    exact b_ret pd_str rfl
  | cons v ws =>
    refine b_no (ptd_cmp hu (pd_var 0 rfl) (pd_lst (ps := []) pad_nil) (.eq Ly.shp Ly.shp)) (by simp [dStrs, PyData.eqv, PyData.eqvAll]) ?_
    refine b_ret (d := .str (S (TL.joinL [32] ((v :: ws).map _root_.id)))) (pd_joinS pd_str (pd_var 0 rfl) ⟨rfl, B, hB, by show (v :: ws).length * (B + 1) ≤ 16777216; omega⟩) ?_
    rw [List.map_id, tListed, if_neg (by simp)]
def p_words_in (ds : List Sl) (r : PyData) : Prop := ∃ ws : List Ls, ds = [D (.str (S (tListed ws)))] ∧ Plain ws ∧ (∀ w ∈ ws, 32 ∉ w ∧ 110 ∉ w) ∧ (tListed ws).length ≤ 10000000 ∧ r = .list (dStrs ws)
/-! words_in -/
theorem sc_words_in : FnScope ["text"] ["text"] (defScope s_words_in) := ⟨rfl, rfl, rfl, by decide +kernel, rfl, by decide +kernel, by decide +kernel⟩
theorem ok_words_in {f  : Addr} {fd : FuncData} (F : FnP K "words_in" s_words_in f fd) (hm : mg "words_in" = some (.ref f)) (B : Frs mg)   : Has P w K mg base 1 "words_in" ["text"] p_words_in f := by
  refine has_of F hm sc_words_in (fun ds r h => by obtain ⟨ws, rfl, hp, hf, hl, rfl⟩ := h; rfl) (fun _ _ _ _ _ _ us hl => match us, hl with | [_], _ => rfl) fun cdv A outer s H E ds r hr hp => ?_
  have hu := hr.u100
  obtain ⟨ws, rfl, hp, hf, hl, rfl⟩ := hp
  apply ends_rt
  haveI : Ly (.str (S (tListed ws))) 0 := (Asc.of fun c hc => by
    rcases tListed_mem hc with h | h | h | h | ⟨v, hv, h⟩
    · omega
    · omega
    · omega
    · omega
    · exact hp v hv c h).ly
  have e0 : PyData.eqv (.str (S (tListed ws))) (.str "none") = decide (tListed ws = [110, 111, 110, 101]) := eqv_S _ _ (by decide +kernel)
  cases ws with
  | nil =>
    refine b_ifT (ptd_cmp hu (pd_var 0 rfl) pd_str (.eq Ly.shp Ly.shp)) (by rw [e0]; exact decide_eq_true rfl) ?_
    exact b_ret (pd_lst (ps := []) pad_nil) rfl
  | cons v ws =>
    have hj : tListed (v :: ws) = TL.joinL [32] (v :: ws) := if_neg (by simp)
    have hne : tListed (v :: ws) ≠ [110, 111, 110, 101] := fun q => by
      have hm : (110 : Nat) ∈ tListed (v :: ws) := by rw [q]; exact List.mem_cons_self
      rw [hj] at hm
      rcases mem_joinL hm with h | ⟨u, hu, h⟩
      · simp at h
      · exact (hf u hu).2 h
    refine b_no (ptd_cmp hu (pd_var 0 rfl) pd_str (.eq Ly.shp Ly.shp)) (by rw [e0]; exact decide_eq_false hne) ?_
    exact b_ret (pd_splitS (pd_var 0 rfl) pd_str ⟨congrArg S hj, rfl, by decide, by simp, fun u hu => (hf u hu).1, by rw [← hj]; exact hl⟩) rfl
def smAll (s : List Int) : Prop := ∀ i ∈ s, sm i
def p_show_stand (ds : List Sl) (r : PyData) : Prop := ∃ s : List Int, ds = [D (dStand s)] ∧ smAll s ∧ s.length ≤ 100 ∧ r = .str (S (tStand s))
/-! show_stand -/
theorem sc_show_stand : FnScope ["stand", "place"] ["stand"] (defScope s_show_stand) := ⟨rfl, rfl, rfl, by decide +kernel, rfl, by decide +kernel, by decide +kernel⟩
theorem ok_show_stand {f  : Addr} {fd : FuncData} (F : FnP K "show_stand" s_show_stand f fd) (hm : mg "show_stand" = some (.ref f)) (B : Frs mg)   : Has P w K mg base 1 "show_stand" ["stand"] p_show_stand f := by
  refine has_of F hm sc_show_stand (fun ds r h => by obtain ⟨s, rfl, hs, hl, rfl⟩ := h; rfl) (fun _ _ _ _ _ _ us hl => match us, hl with | [_], _ => rfl) fun cdv A outer s H E ds r hr hp => ?_
  have hu := hr.u100
  obtain ⟨s, rfl, hs, hl, rfl⟩ := hp
  apply ends_rt
  exact b_ret (pd_joinS pd_str (pd_lcA [("place", 1)] s .int (fun i => .str (S (num i))) rfl sc_show_stand.nd (pid_tup (pd_var 0 rfl)) (blkOk_by (N := ["stand", "place"]) (own := [("place", 1)]) (sc := defScope s_show_stand) (by decide +kernel)) (fun x hx => ⟨_, fun _ _ _ _ _ => (pgw_name 1 sc_show_stand.nd), fun _ _ _ _ _ => PED.eq (pd_strI B.str (pd_var 1 rfl) (sm_log (hs x hx))) (congrArg PyData.str (num_str (hs x hx).1)), rfl⟩) (small_size (by omega))) ⟨rfl, 9, fun i hi => num_len (hs i hi), by show s.length * (9 + 1) ≤ 16777216; omega⟩) rfl
def p_read_stand (ds : List Sl) (r : PyData) : Prop := ∃ s : List Int, ds = [D (.str (S (tStand s)))] ∧ smAll s ∧ s ≠ [] ∧ s.length ≤ 100 ∧ r = dStand s
/-! read_stand -/
theorem sc_read_stand : FnScope ["text", "word"] ["text"] (defScope s_read_stand) := ⟨rfl, rfl, rfl, by decide +kernel, rfl, by decide +kernel, by decide +kernel⟩
theorem ok_read_stand {f f_count_in : Addr} {fd : FuncData} (F : FnP K "read_stand" s_read_stand f fd) (hm : mg "read_stand" = some (.ref f)) (B : Frs mg) (h_count_in : Has P w K mg base 2 "count_in" ["word"] p_count_in f_count_in)  : Has P w K mg base 3 "read_stand" ["text"] p_read_stand f := by
  refine has_of F hm sc_read_stand (fun ds r h => by obtain ⟨s, rfl, hs, hne, hl, rfl⟩ := h; rfl) (fun _ _ _ _ _ _ us hl => match us, hl with | [_], _ => rfl) fun cdv A outer s H E ds r hr hp => ?_
  have hu := hr.u100
  obtain ⟨s, rfl, hs, hne, hl, rfl⟩ := hp
  apply ends_rt
  refine b_ret (pd_tuple B.tuple (pd_lcA [("word", 1)] s (fun i => .str (S (num i))) .int rfl sc_read_stand.nd (PID.eq (pid_list (pd_splitS (pd_var 0 rfl) pd_str ⟨rfl, rfl, by decide, by simp [hne], ?_, ?_⟩)) (by rw [List.map_map]; rfl)) (blkOk_by (N := ["text", "word"]) (own := [("word", 1)]) (sc := defScope s_read_stand) (by decide +kernel)) (fun x hx => ⟨_, fun _ _ _ _ _ => (pgw_name 1 sc_read_stand.nd), fun _ _ _ _ _ => PED.eq (pd_call h_count_in (hr.mono (by decide)) (pad_cons (pd_var 1 rfl) pad_nil) ⟨x, rfl, hs x hx, rfl⟩) rfl, rfl⟩) (small_size (by omega)))) rfl
  · intro v hv
    obtain ⟨i, hi, rfl⟩ := List.mem_map.mp hv
    intro q
    have := num_digit q
    omega
  · have := tStand_len hs
    unfold tStand at this
    omega
def p_two_shown (ds : List Sl) (r : PyData) : Prop := ∃ a b : Ls, ds = [D (.str (S a)), D (.str (S b))] ∧ a.length + b.length ≤ 10000000 ∧ r = .str (S (a ++ [126] ++ b))
/-! two_shown -/
theorem sc_two_shown : FnScope ["one", "other"] ["one", "other"] (defScope s_two_shown) := ⟨rfl, rfl, rfl, by decide +kernel, rfl, by decide +kernel, by decide +kernel⟩
theorem ok_two_shown {f  : Addr} {fd : FuncData} (F : FnP K "two_shown" s_two_shown f fd) (hm : mg "two_shown" = some (.ref f)) (B : Frs mg)   : Has P w K mg base 1 "two_shown" ["one", "other"] p_two_shown f := by
  refine has_of F hm sc_two_shown (fun ds r h => by obtain ⟨a, b, rfl, hl, rfl⟩ := h; rfl) (fun _ _ _ _ _ _ us hl => match us, hl with | [_, _], _ => rfl) fun cdv A outer s H E ds r hr hp => ?_
  have hu := hr.u100
  obtain ⟨a, b, rfl, hl, rfl⟩ := hp
  apply ends_rt
  have hsz : sizeLine = 2 ^ 24 := rfl
  have e : ("~" : Str) = S [126] := rfl
  refine b_ret (pd_bin (pd_bin (pd_var 0 rfl) pd_str (.addS (by rw [e, S_len, S_len]; simp only [List.length_singleton]; omega))) (pd_var 1 rfl) (.addS (by rw [e, S_cat, S_len, S_len, List.length_append, List.length_singleton]; omega))) ?_
  rw [e, S_cat, S_cat]
end
end Ct

-- W17
set_option Elab.async false
set_option linter.all false
set_option maxRecDepth 100000
set_option maxHeartbeats 1000000
/-! W17: texts.py: parts, trains, steps (printed by gen2.py from W17.src). -/
namespace Ct
open PySem PySem.Spec L2 SX
section
variable {X : Cx} {e tg elt iter : Expr} {δ δ1 : List Sl} {pos p : Pos} {scope : Scope}
/-- name = [elt for ..] over a typed list -/
theorem pbd_setLcA {α : Type} {rest : List Stmt} {bs : List (List Stmt)} {o : Out} (i : Nat) {y : Str} {py spos : Pos} (own : List (Str × Nat)) (xs : List α) (g : α → PyData) (f : α → PyData) (hc : X.calm = true) (hN : X.N.Nodup) (hi : PID X δ tg iter (xs.map g) δ1) (ok : BlkOk X.N X.env.scope scope own)
    (turn : ∀ x ∈ xs, ∃ δb, (∀ s H C cl fp, PG (Bk X scope s H C cl fp) tg (tDW X.prog X.w (own.map (·.2)) (wipeD δ1 (own.map (·.2))) (g x) δb)) ∧
      (∀ s H C cl fp, PED (Bk X scope s H C cl fp) δb elt (D (f x)) δb) ∧ wipeD δb (own.map (·.2)) = wipeD δ1 (own.map (·.2)))
    (hz : xs.length < sizeLine) (hr : PBD X ((wipeD δ1 (own.map (·.2))).set i (D (.list (xs.map f)))) (rest :: bs) o)
    (hsw : swapsWith (.ListComp elt [⟨tg, iter, [], 0⟩] scope pos) (some (.Name y py)) spos.line X.env = pure true) (hy : X.N[i]? = some y := by rfl) (hyl : X.env.scope.names.lookup y = some .local := by rfl) (hs : ∀ x, foldedSetIterable iter X.env x = pure x := by intro _; rfl) :
    PBD X δ ((.Assign [.Name y py] (.ListComp elt [⟨tg, iter, [], 0⟩] scope pos) spos :: rest) :: bs) o := by
  have ww : wipeD (wipeD δ1 (own.map (·.2))) (own.map (·.2)) = wipeD δ1 (own.map (·.2)) := wipeD_twice
  refine pbd_setLc (res := xs.map f) (δe := wipeD δ1 (own.map (·.2))) i own hc hN hi ok (fun i δa acc => δa = wipeD δ1 (own.map (·.2)) ∧ acc = (xs.take i).map f) ⟨rfl, by simp⟩ (fun i d δa acc hd ⟨e1, e2⟩ => ?_) (fun δa acc ⟨e1, e2⟩ => ?_) (by rw [List.length_map]; exact hz) hr hsw hy hyl hs
  · subst e1
    rw [List.getElem?_map] at hd
    obtain ⟨x, hx, rfl⟩ := Option.map_eq_some_iff.mp hd
    obtain ⟨δb, hg, he, hw⟩ := turn x (List.mem_of_getElem? hx)
    refine ⟨_, _, ⟨δb, true, δb, hg, fun _ _ _ _ _ => ptsd_nil, .inl ⟨rfl, f x, δb, he, rfl, rfl⟩⟩, hw, ?_⟩
    rw [List.take_add_one, hx, List.map_append, e2]
    rfl
  · subst e1
    exact ⟨by rw [e2, List.length_map, List.take_length], ww⟩
end
def partSm (p : Part) : Prop := match p with
  | .wheel z ms => sm z ∧ smAll ms ∧ ms.length ≤ 1000
  | .spring k => sm k
  | _ => True
theorem partSm_of {p : Part} (h : p.ok) : partSm p := by
  cases p with
  | wheel z ms =>
    have h1 := h.1
    have h2 := h.2.1
    have hl := h.2.2.len (by omega)
    refine ⟨⟨by omega, by omega⟩, fun m hm => ?_, by omega⟩
    have := h.2.2.1 m hm
    exact ⟨this.1, by omega⟩
  | click => trivial
  | rocker => trivial
  | spring k =>
    have h1 := h.1
    have h2 := h.2
    exact ⟨by omega, by omega⟩
theorem tPart_len {p : Part} (h : partSm p) : (tPart p).length ≤ 10020 := by
  cases p with
  | wheel z ms =>
    have h1 := num_len h.1
    have h2 := joinL_len (sep := [44]) (B := 9) (ps := ms.map num) fun p hp => by
      obtain ⟨i, hi, rfl⟩ := List.mem_map.mp hp
      exact num_len (h.2.1 i hi)
    rw [List.length_map] at h2
    have h3 := h.2.2
    have h4 : (TL.joinL [44] (ms.map num)).length ≤ ms.length * 10 := h2
    show ([119] ++ num z ++ [58] ++ TL.joinL [44] (ms.map num)).length ≤ 10020
    simp only [List.length_append, List.length_cons, List.length_nil]
    omega
  | click => show 1 ≤ 10020; decide
  | rocker => show 1 ≤ 10020; decide
  | spring k =>
    have h1 := num_len (show sm k from h)
    show ([115] ++ num k).length ≤ 10020
    simp only [List.length_append, List.length_cons, List.length_nil]
    omega
section
variable {P : Program} {w : World} {K : PySem.W.Frag} {mg : Str → Option Value} {base : Heap}
def p_part_shown (ds : List Sl) (r : PyData) : Prop := ∃ p : Part, ds = [D (dPart p)] ∧ partSm p ∧ r = .str (S (tPart p))
/-! part_shown -/
theorem sc_part_shown : FnScope ["part", "mark"] ["part"] (defScope s_part_shown) := ⟨rfl, rfl, rfl, by decide +kernel, rfl, by decide +kernel, by decide +kernel⟩
theorem ok_part_shown {f  : Addr} {fd : FuncData} (F : FnP K "part_shown" s_part_shown f fd) (hm : mg "part_shown" = some (.ref f)) (B : Frs mg)   : Has P w K mg base 1 "part_shown" ["part"] p_part_shown f := by
  refine has_of F hm sc_part_shown (fun ds r h => by obtain ⟨p, rfl, hp, rfl⟩ := h; rfl) (fun _ _ _ _ _ _ us hl => match us, hl with | [_], _ => rfl) fun cdv A outer s H E ds r hr hp => ?_
  have hu := hr.u100
  obtain ⟨p, rfl, hp, rfl⟩ := hp
  apply ends_rt
  have hsz : sizeLine = 2 ^ 24 := rfl
  cases p with
  | wheel z ms =>
    have hl := tPart_len hp
    obtain ⟨h1, h2, h3⟩ := hp
    have l1 := num_len h1
    have ez := num_str h1.1
    refine b_ifT (ptd_cmp hu (pd_ix (pd_var 0 rfl) pd_int (.tup rfl)) pd_str (.eq Ly.shp Ly.shp)) (by first | decide +kernel | simp [PyData.eqv, PyData.eqvAll, dPart, eqv_str, eqv_int, places]) ?_
    refine b_ret (pd_bin (pd_bin (pd_bin pd_str (pd_strI B.str (pd_ix (pd_var 0 rfl) pd_int (.tup rfl)) (sm_log h1)) (.addS ?_)) pd_str (.addS ?_)) (pd_joinS pd_str (pd_lcA [("mark", 1)] ms .int (fun i => .str (S (num i))) rfl sc_part_shown.nd (pid_tup (pd_ix (pd_var 0 rfl) pd_int (.tup rfl))) (blkOk_by (N := ["part", "mark"]) (own := [("mark", 1)]) (sc := defScope s_part_shown) (by decide +kernel)) (fun x hx => ⟨_, fun _ _ _ _ _ => (pgw_name 1 sc_part_shown.nd), fun _ _ _ _ _ => PED.eq (pd_strI B.str (pd_var 1 rfl) (sm_log (h2 x hx))) (congrArg PyData.str (num_str (h2 x hx).1)), rfl⟩) (small_size (by omega))) ⟨(rfl : ("," : Str) = S [44]), 9, fun i hi => num_len (h2 i hi), by show ms.length * (9 + 1) ≤ 16777216; omega⟩) (.addS ?_)) ?_
    · rw [ez, show ("w" : Str) = S [119] from rfl, S_len, S_len]; simp only [List.length_cons, List.length_nil]; omega
    · rw [ez, show ("w" : Str) = S [119] from rfl, show (":" : Str) = S [58] from rfl, S_cat, S_len, S_len]; simp only [List.length_append, List.length_cons, List.length_nil]; omega
    · rw [ez, show ("w" : Str) = S [119] from rfl, show (":" : Str) = S [58] from rfl, S_cat, S_cat, S_len, S_len]
      have hl' : ([119] ++ num z ++ [58] ++ TL.joinL [44] (ms.map num)).length ≤ 10020 := hl
      rw [List.length_append] at hl'
      change ([119] ++ num z ++ [58]).length + (TL.joinL [44] (ms.map num)).length ≤ sizeLine
      omega
    · rw [ez, show ("w" : Str) = S [119] from rfl, show (":" : Str) = S [58] from rfl, S_cat, S_cat, S_cat]
      rfl
  | click =>
    refine b_no (ptd_cmp hu (pd_ix (pd_var 0 rfl) pd_int (.tup rfl)) pd_str (.eq Ly.shp Ly.shp)) (by first | decide +kernel | simp [PyData.eqv, PyData.eqvAll, dPart, eqv_str, eqv_int, places]) ?_
    refine b_no (ptd_cmp hu (pd_ix (pd_var 0 rfl) pd_int (.tup rfl)) pd_str (.eq Ly.shp Ly.shp)) (by first | decide +kernel | simp [PyData.eqv, PyData.eqvAll, dPart, eqv_str, eqv_int, places]) ?_
    refine b_ret (pd_slice (pd_ix (pd_var 0 rfl) pd_int (.tup rfl)) pod_none (pod_some pd_int) (.str (by decide +kernel))) ?_
    exact congrArg PyData.str (by decide +kernel)
  | rocker =>
    refine b_no (ptd_cmp hu (pd_ix (pd_var 0 rfl) pd_int (.tup rfl)) pd_str (.eq Ly.shp Ly.shp)) (by first | decide +kernel | simp [PyData.eqv, PyData.eqvAll, dPart, eqv_str, eqv_int, places]) ?_
    refine b_no (ptd_cmp hu (pd_ix (pd_var 0 rfl) pd_int (.tup rfl)) pd_str (.eq Ly.shp Ly.shp)) (by first | decide +kernel | simp [PyData.eqv, PyData.eqvAll, dPart, eqv_str, eqv_int, places]) ?_
    refine b_ret (pd_slice (pd_ix (pd_var 0 rfl) pd_int (.tup rfl)) pod_none (pod_some pd_int) (.str (by decide +kernel))) ?_
    exact congrArg PyData.str (by decide +kernel)
  | spring k =>
    have h1 : sm k := hp
    have l1 := num_len h1
    have ez := num_str h1.1
    refine b_no (ptd_cmp hu (pd_ix (pd_var 0 rfl) pd_int (.tup rfl)) pd_str (.eq Ly.shp Ly.shp)) (by first | decide +kernel | simp [PyData.eqv, PyData.eqvAll, dPart, eqv_str, eqv_int, places]) ?_
    refine b_ifT (ptd_cmp hu (pd_ix (pd_var 0 rfl) pd_int (.tup rfl)) pd_str (.eq Ly.shp Ly.shp)) (by first | decide +kernel | simp [PyData.eqv, PyData.eqvAll, dPart, eqv_str, eqv_int, places]) ?_
    refine b_ret (pd_bin pd_str (pd_strI B.str (pd_ix (pd_var 0 rfl) pd_int (.tup rfl)) (sm_log h1)) (.addS ?_)) ?_
    · rw [ez, show ("s" : Str) = S [115] from rfl, S_len, S_len]; simp only [List.length_cons, List.length_nil]; omega
    · rw [ez, show ("s" : Str) = S [115] from rfl, S_cat]
      rfl
theorem tPart_asc {p : Part} : ∀ c ∈ tPart p, c < 128 := fun c hc => by
  have := tPart_mem hc
  omega
def p_part_in (ds : List Sl) (r : PyData) : Prop := ∃ p : Part, ds = [D (.str (S (tPart p)))] ∧ partSm p ∧ r = dPart p
/-! part_in -/
theorem sc_part_in : FnScope ["word", "teeth", "colon", "marks", "told", "mark"] ["word"] (defScope s_part_in) := ⟨rfl, rfl, rfl, by decide +kernel, rfl, by decide +kernel, by decide +kernel⟩
theorem ok_part_in {f f_sure f_count_in : Addr} {fd : FuncData} (F : FnP K "part_in" s_part_in f fd) (hm : mg "part_in" = some (.ref f)) (B : Frs mg) (h_sure : Has P w K mg base 1 "sure" ["good"] p_sure f_sure) (h_count_in : Has P w K mg base 2 "count_in" ["word"] p_count_in f_count_in)  : Has P w K mg base 3 "part_in" ["word"] p_part_in f := by
  refine has_of F hm sc_part_in (fun ds r h => by obtain ⟨p, rfl, hp, rfl⟩ := h; rfl) (fun _ _ _ _ _ _ us hl => match us, hl with | [_], _ => rfl) fun cdv A outer s H E ds r hr hp => ?_
  have hu := hr.u100
  obtain ⟨p, rfl, hp, rfl⟩ := hp
  apply ends_rt
  have hsz : sizeLine = 2 ^ 24 := rfl
  have hl := tPart_len hp
  have hz : (S (tPart p)).length ≤ sizeLine := S_size (by omega)
  haveI : Ly (.str (S (tPart p))) 0 := (Asc.of tPart_asc).ly
  have e1 : PyData.eqv (.str (S (tPart p))) (.str "c") = decide (tPart p = [99]) := eqv_S _ _ rfl
  have e2 : PyData.eqv (.str (S (tPart p))) (.str "r") = decide (tPart p = [114]) := eqv_S _ _ rfl
  cases p with
  | click =>
    refine b_ifT (ptd_w (w_orT (ptd_cmp hu (pd_var 0 rfl) pd_str (.eq Ly.shp Ly.shp)) (by rw [e1]; rfl))) rfl ?_
    exact b_ret (pd_ix (pd_lst (ps := [_, _]) (pad_cons (pd_tup (ps := [_]) (pad_cons pd_str pad_nil)) (pad_cons (pd_tup (ps := [_]) (pad_cons pd_str pad_nil)) pad_nil))) (pd_intB B.int (pd_cmp hu (pd_var 0 rfl) pd_str (.eq Ly.shp Ly.shp))) (.lst (show _ = some (dPart .click) by rw [e2]; rfl))) rfl
  | rocker =>
    refine b_ifT (ptd_w (w_orF (ptd_cmp hu (pd_var 0 rfl) pd_str (.eq Ly.shp Ly.shp)) (by rw [e1]; rfl) (w_or1 (ptd_cmp hu (pd_var 0 rfl) pd_str (.eq Ly.shp Ly.shp))))) (by rw [e2]; rfl) ?_
    exact b_ret (pd_ix (pd_lst (ps := [_, _]) (pad_cons (pd_tup (ps := [_]) (pad_cons pd_str pad_nil)) (pad_cons (pd_tup (ps := [_]) (pad_cons pd_str pad_nil)) pad_nil))) (pd_intB B.int (pd_cmp hu (pd_var 0 rfl) pd_str (.eq Ly.shp Ly.shp))) (.lst (show _ = some (dPart .rocker) by rw [e2]; rfl))) rfl
  | spring k =>
    have hk : sm k := hp
    have n1 : ¬ tPart (.spring k) = [99] := by intro q; cases q
    have n2 : ¬ tPart (.spring k) = [114] := by intro q; cases q
    have c1 : cutS (S (tPart (.spring k))) none (some 1) = S [115] := cut_to (l := tPart (.spring k)) (k := 1) (by show 1 ≤ (115 :: num k).length; simp)
    have c2 : cutS (S (tPart (.spring k))) (some 1) none = S (num k) := cut_from (l := tPart (.spring k)) (k := 1) (by show 1 ≤ (115 :: num k).length; simp)
    refine b_no (ptd_w (w_orF (ptd_cmp hu (pd_var 0 rfl) pd_str (.eq Ly.shp Ly.shp)) (by rw [e1]; exact decide_eq_false n1) (w_or1 (ptd_cmp hu (pd_var 0 rfl) pd_str (.eq Ly.shp Ly.shp))))) (by rw [e2]; exact decide_eq_false n2) ?_
    haveI : Ly (.str (cutS (S (tPart (.spring k))) none (some 1))) 0 := by rw [c1]; exact ⟨.str (by decide +kernel)⟩
    refine b_ifT (ptd_cmp hu (pd_slice (pd_var 0 rfl) pod_none (pod_some pd_int) (.str hz)) pd_str (.eq Ly.shp Ly.shp)) (by rw [c1]; decide +kernel) ?_
    refine b_ret (pd_tup (ps := [_, _]) (pad_cons pd_str (pad_cons (pd_call h_count_in (hr.mono (by decide)) (pad_cons (pd_slice (pd_var 0 rfl) (pod_some pd_int) pod_none (.str hz)) pad_nil) ⟨k, by rw [c2], hk, rfl⟩) pad_nil))) rfl
  | wheel z ms =>
    obtain ⟨h1, h2, h3⟩ := hp
    have n1 : ¬ tPart (.wheel z ms) = [99] := by intro q; cases q
    have n2 : ¬ tPart (.wheel z ms) = [114] := by intro q; cases q
    have hl1 : 1 ≤ (tPart (.wheel z ms)).length := by show 1 ≤ (119 :: _).length; simp
    have c1 : cutS (S (tPart (.wheel z ms))) none (some 1) = S [119] := cut_to (l := tPart (.wheel z ms)) (k := 1) hl1
    have c2 : cutS (S (tPart (.wheel z ms))) (some 1) none = S (num z ++ [58] ++ TL.joinL [44] (ms.map num)) := cut_from (l := tPart (.wheel z ms)) (k := 1) hl1
    refine b_no (ptd_w (w_orF (ptd_cmp hu (pd_var 0 rfl) pd_str (.eq Ly.shp Ly.shp)) (by rw [e1]; exact decide_eq_false n1) (w_or1 (ptd_cmp hu (pd_var 0 rfl) pd_str (.eq Ly.shp Ly.shp))))) (by rw [e2]; exact decide_eq_false n2) ?_
    haveI : Ly (.str (cutS (S (tPart (.wheel z ms))) none (some 1))) 0 := by rw [c1]; exact ⟨.str (by decide +kernel)⟩
    refine b_no (ptd_cmp hu (pd_slice (pd_var 0 rfl) pod_none (pod_some pd_int) (.str hz)) pd_str (.eq Ly.shp Ly.shp)) (by rw [c1]; decide +kernel) ?_
    have hfree : 58 ∉ num z := fun q => by have := num_digit q; omega
    refine pbd_asg (pd_partS (pd_slice (pd_var 0 rfl) (pod_some pd_int) pod_none (.str hz)) pd_str ⟨c2, rfl, hfree, ?_⟩) (pgd_tup rfl (pgds_cons (pgd_name 1 sc_part_in.nd) (pgds_cons (pgd_name 2 sc_part_in.nd) (pgds_cons (pgd_name 3 sc_part_in.nd) pgds_nil)))) ?_
    · have : (119 :: (num z ++ [58] ++ TL.joinL [44] (ms.map num))).length ≤ 10020 := hl
      rw [List.length_cons] at this
      omega
    haveI : Ly (.str (S [58])) 0 := ⟨.str (by decide +kernel)⟩
    refine pbd_drop (pd_call h_sure (hr.mono (by decide)) (pad_cons (pd_and (pd_cmp hu (pd_slice (pd_var 0 rfl) pod_none (pod_some pd_int) (.str hz)) pd_str (.eq Ly.shp Ly.shp)) fun _ => (pd_one (pd_cmp hu (pd_var 2 rfl) pd_str (.eq Ly.shp Ly.shp)))) pad_nil) ⟨?_, rfl⟩) ?_
    · rw [c1]
      have : (PyData.eqv (.str (S [119])) (.str "w") && PyData.eqv (.str (S [58])) (.str ":")) = true := by rw [eqv_str, eqv_str]; decide +kernel
      rw [this]
    refine pbd_set 4 sc_part_in.nd (pd_tup (ps := []) pad_nil) ?_
    have hJ : ∀ c ∈ TL.joinL [44] (ms.map num), c < 128 := fun c hc => by
      rcases mem_joinL hc with h | ⟨p, hp, h⟩
      · have := List.mem_singleton.mp h; omega
      · obtain ⟨i, _, rfl⟩ := List.mem_map.mp hp
        have := num_digit h; omega
    haveI : Ly (.str (S (TL.joinL [44] (ms.map num)))) 0 := (Asc.of hJ).ly
    have e3 : PyData.eqv (.str (S (TL.joinL [44] (ms.map num)))) (.str "") = decide (TL.joinL [44] (ms.map num) = []) := eqv_S _ _ rfl
    cases ms with
    | nil =>
      refine b_no (ptd_cmp hu (pd_var 3 rfl) pd_str (.ne Ly.shp Ly.shp)) (by rw [e3]; rfl) ?_
      exact b_ret (pd_tup (ps := [_, _, _]) (pad_cons pd_str (pad_cons (pd_call h_count_in (hr.mono (by decide)) (pad_cons (pd_var 1 rfl) pad_nil) ⟨z, rfl, h1, rfl⟩) (pad_cons (pd_var 4 rfl) pad_nil)))) rfl
    | cons m ms =>
      have hJne : TL.joinL [44] ((m :: ms).map num) ≠ [] := joinL_ne (num_ne m)
      have hJl : (TL.joinL [44] ((m :: ms).map num)).length ≤ 10000000 := by
        have : (119 :: (num z ++ [58] ++ TL.joinL [44] ((m :: ms).map num))).length ≤ 10020 := hl
        simp only [List.length_cons, List.length_append, List.length_nil] at this
        omega
      refine b_ifT (ptd_cmp hu (pd_var 3 rfl) pd_str (.ne Ly.shp Ly.shp)) (by rw [e3, decide_eq_false hJne]; rfl) ?_
      refine pbd_set 4 sc_part_in.nd (s := D (.tuple ((m :: ms).map .int))) (pd_tuple B.tuple (pd_lcA [("mark", 5)] (m :: ms) (fun i => .str (S (num i))) .int rfl sc_part_in.nd (PID.eq (pid_list (pd_splitS (pd_var 3 rfl) pd_str ⟨rfl, rfl, by decide, by simp, ?_, hJl⟩)) (by rw [List.map_map]; rfl)) (blkOk_by (N := ["word", "teeth", "colon", "marks", "told", "mark"]) (own := [("mark", 5)]) (sc := defScope s_part_in) (by decide +kernel)) (fun x hx => ⟨_, fun _ _ _ _ _ => (pgw_name 5 sc_part_in.nd), fun _ _ _ _ _ => PED.eq (pd_call h_count_in (hr.mono (by decide)) (pad_cons (pd_var 5 rfl) pad_nil) ⟨x, rfl, h2 x hx, rfl⟩) rfl, rfl⟩) (small_size (by omega)))) (pbd_pop ?_)
      · intro v hv
        obtain ⟨i, hi, rfl⟩ := List.mem_map.mp hv
        intro q
        have := num_digit q
        omega
      · exact b_ret (pd_tup (ps := [_, _, _]) (pad_cons pd_str (pad_cons (pd_call h_count_in (hr.mono (by decide)) (pad_cons (pd_var 1 rfl) pad_nil) ⟨z, rfl, h1, rfl⟩) (pad_cons (pd_var 4 rfl) pad_nil)))) rfl
theorem train_sm {T : List Part} (hT : trainOk T) : ∀ p ∈ T, partSm p := fun p hp => partSm_of (hT.2.2 p hp)
def p_show_train (ds : List Sl) (r : PyData) : Prop := ∃ T : List Part, ds = [D (dTrain T)] ∧ trainOk T ∧ r = .str (S (tTrain T))
/-! show_train -/
theorem sc_show_train : FnScope ["train", "part"] ["train"] (defScope s_show_train) := ⟨rfl, rfl, rfl, by decide +kernel, rfl, by decide +kernel, by decide +kernel⟩
theorem ok_show_train {f f_check_train f_part_shown : Addr} {fd : FuncData} (F : FnP K "show_train" s_show_train f fd) (hm : mg "show_train" = some (.ref f)) (B : Frs mg) (h_check_train : Has P w K mg base 4 "check_train" ["train"] p_check_train f_check_train) (h_part_shown : Has P w K mg base 1 "part_shown" ["part"] p_part_shown f_part_shown)  : Has P w K mg base 5 "show_train" ["train"] p_show_train f := by
  refine has_of F hm sc_show_train (fun ds r h => by obtain ⟨T, rfl, hT, rfl⟩ := h; rfl) (fun _ _ _ _ _ _ us hl => match us, hl with | [_], _ => rfl) fun cdv A outer s H E ds r hr hp => ?_
  have hu := hr.u100
  obtain ⟨T, rfl, hT, rfl⟩ := hp
  apply ends_rt
  have hl := hT.2.1
  refine pbd_drop (pd_call h_check_train (hr.mono (by decide)) (pad_cons (pd_var 0 rfl) pad_nil) ⟨T, rfl, hT, rfl⟩) ?_
  exact b_ret (pd_joinS pd_str (pd_lcA [("part", 1)] T dPart (fun p => .str (S (tPart p))) rfl sc_show_train.nd (pid_list (pd_var 0 rfl)) (blkOk_by (N := ["train", "part"]) (own := [("part", 1)]) (sc := defScope s_show_train) (by decide +kernel)) (fun x hx => ⟨_, fun _ _ _ _ _ => (pgw_name 1 sc_show_train.nd), fun _ _ _ _ _ => PED.eq (pd_call h_part_shown (hr.mono (by decide)) (pad_cons (pd_var 1 rfl) pad_nil) ⟨x, rfl, train_sm hT x hx, rfl⟩) rfl, rfl⟩) (small_size (by omega))) ⟨rfl, 10020, fun p hp => tPart_len (train_sm hT p hp), by show T.length * (10020 + 1) ≤ 16777216; omega⟩) rfl
def p_read_train (ds : List Sl) (r : PyData) : Prop := ∃ T : List Part, ds = [D (.str (S (tTrain T)))] ∧ trainOk T ∧ r = dTrain T
/-! read_train -/
theorem sc_read_train : FnScope ["text", "train", "word"] ["text"] (defScope s_read_train) := ⟨rfl, rfl, rfl, by decide +kernel, rfl, by decide +kernel, by decide +kernel⟩
theorem ok_read_train {f f_check_train f_part_in : Addr} {fd : FuncData} (F : FnP K "read_train" s_read_train f fd) (hm : mg "read_train" = some (.ref f)) (B : Frs mg) (h_check_train : Has P w K mg base 4 "check_train" ["train"] p_check_train f_check_train) (h_part_in : Has P w K mg base 3 "part_in" ["word"] p_part_in f_part_in)  : Has P w K mg base 5 "read_train" ["text"] p_read_train f := by
  refine has_of F hm sc_read_train (fun ds r h => by obtain ⟨T, rfl, hT, rfl⟩ := h; rfl) (fun _ _ _ _ _ _ us hl => match us, hl with | [_], _ => rfl) fun cdv A outer s H E ds r hr hp => ?_
  have hu := hr.u100
  obtain ⟨T, rfl, hT, rfl⟩ := hp
  apply ends_rt
  have hl := hT.2.1
  refine pbd_setLcA 1 [("word", 2)] T (fun p => .str (S (tPart p))) dPart rfl sc_read_train.nd (PID.eq (pid_list (pd_splitS (pd_var 0 rfl) pd_str ⟨rfl, rfl, by decide, ?_, ?_, ?_⟩)) (by rw [List.map_map]; rfl)) (blkOk_by (N := ["text", "train", "word"]) (own := [("word", 2)]) (sc := defScope s_read_train) (by decide +kernel)) (fun x hx => ⟨_, fun _ _ _ _ _ => pgw_name 2 sc_read_train.nd, fun _ _ _ _ _ => (pd_call h_part_in (hr.mono (by decide)) (pad_cons (pd_var 2 rfl) pad_nil) ⟨x, rfl, train_sm hT x hx, rfl⟩), rfl⟩) (small_size (by omega)) ?_ (sw_true rfl rfl rfl (by decide +kernel))
  · have := hT.1; simp [this]
  · intro v hv
    obtain ⟨p, hp, rfl⟩ := List.mem_map.mp hv
    intro q
    have := tPart_mem q
    omega
  · have h := joinL_len (sep := [32]) (B := 10020) (ps := T.map tPart) fun p hp => by
      obtain ⟨i, hi, rfl⟩ := List.mem_map.mp hp
      exact tPart_len (train_sm hT i hi)
    rw [List.length_map] at h
    have h' : (TL.joinL [32] (T.map tPart)).length ≤ T.length * 10021 := h
    omega
  refine pbd_drop (pd_call h_check_train (hr.mono (by decide)) (pad_cons (pd_var 1 rfl) pad_nil) ⟨T, rfl, hT, rfl⟩) ?_
  exact b_ret (pd_var 1 rfl) rfl
/-! steps -/
def stepSm (p : Stp) : Prop := sm p.1 ∧ isWay p.2.1 ∧ sm p.2.2
theorem tStep_len {deed : Bool} {p : Stp} (h : stepSm p) : (tStep deed p).length ≤ 20 := by
  have h1 := num_len h.1
  have h2 := num_len h.2.2
  unfold tStep tWay
  cases deed with
  | true => simp only [if_true, List.length_append, List.length_cons, List.length_nil]; omega
  | false => simp only [if_neg Bool.false_ne_true, List.length_append, List.length_cons, List.length_nil]; omega
def p_step_shown (ds : List Sl) (r : PyData) : Prop := ∃ (deed : Bool) (p : Stp), ds = [D (dStep deed p)] ∧ stepSm p ∧ r = .str (S (tStep deed p))
/-! step_shown -/
theorem sc_step_shown : FnScope ["step", "times"] ["step"] (defScope s_step_shown) := ⟨rfl, rfl, rfl, by decide +kernel, rfl, by decide +kernel, by decide +kernel⟩
theorem ok_step_shown {f f_way_shown : Addr} {fd : FuncData} (F : FnP K "step_shown" s_step_shown f fd) (hm : mg "step_shown" = some (.ref f)) (B : Frs mg) (h_way_shown : Has P w K mg base 1 "way_shown" ["way"] p_way_shown f_way_shown)  : Has P w K mg base 2 "step_shown" ["step"] p_step_shown f := by
  refine has_of F hm sc_step_shown (fun ds r h => by obtain ⟨deed, p, rfl, hp, rfl⟩ := h; rfl) (fun _ _ _ _ _ _ us hl => match us, hl with | [_], _ => rfl) fun cdv A outer s H E ds r hr hp => ?_
  have hu := hr.u100
  obtain ⟨deed, p, rfl, hp, rfl⟩ := hp
  apply ends_rt
  have hsz : sizeLine = 2 ^ 24 := rfl
  obtain ⟨h1, h2, h3⟩ := hp
  have l1 := num_len h1
  have l3 := num_len h3
  have e1 := num_str h1.1
  have lw : (tWay p.2.1).length = 1 := rfl
  cases deed with
  | true =>
    refine b_ret (pd_bin (pd_bin (pd_strI B.str (pd_ix (pd_var 0 rfl) pd_int (.tup rfl)) (sm_log h1)) (pd_call h_way_shown (hr.mono (by decide)) (pad_cons (pd_ix (pd_var 0 rfl) pd_int (.tup rfl)) pad_nil) ⟨p.2.1, rfl, h2, rfl⟩) (.addS ?_)) (pd_joinS pd_str (pd_lcA [("times", 1)] [p.2.2] .int (fun i => .str (S (num i))) rfl sc_step_shown.nd (pid_tup (pd_slice (pd_var 0 rfl) (pod_some pd_int) pod_none .tup)) (blkOk_by (N := ["step", "times"]) (own := [("times", 1)]) (sc := defScope s_step_shown) (by decide +kernel)) (fun x hx => ⟨_, fun _ _ _ _ _ => (pgw_name 1 sc_step_shown.nd), fun _ _ _ _ _ => PED.eq (pd_strI B.str (pd_var 1 rfl) (sm_log (by rw [List.mem_singleton] at hx; subst hx; exact h3))) (congrArg PyData.str (num_str (by rw [List.mem_singleton] at hx; subst hx; exact h3.1))), rfl⟩) (small_size (by show 1 ≤ 100000; decide))) ⟨(rfl : ("" : Str) = S []), 9, fun i hi => by rw [List.mem_singleton] at hi; subst hi; exact l3, by show 1 * (9 + 0) ≤ 16777216; decide⟩) (.addS ?_)) ?_
    · rw [e1, S_len, S_len]; omega
    · rw [e1, S_cat, S_len, S_len, List.length_append]
      show (num p.1).length + (tWay p.2.1).length + (num p.2.2).length ≤ sizeLine
      omega
    · rw [e1, S_cat, S_cat]
      rfl
  | false =>
    refine b_ret (pd_bin (pd_bin (pd_strI B.str (pd_ix (pd_var 0 rfl) pd_int (.tup rfl)) (sm_log h1)) (pd_call h_way_shown (hr.mono (by decide)) (pad_cons (pd_ix (pd_var 0 rfl) pd_int (.tup rfl)) pad_nil) ⟨p.2.1, rfl, h2, rfl⟩) (.addS ?_)) (pd_joinS pd_str (pd_lcA [("times", 1)] ([] : List Int) .int (fun i => .str (S (num i))) rfl sc_step_shown.nd (pid_tup (pd_slice (pd_var 0 rfl) (pod_some pd_int) pod_none .tup)) (blkOk_by (N := ["step", "times"]) (own := [("times", 1)]) (sc := defScope s_step_shown) (by decide +kernel)) (fun x hx => ⟨_, fun _ _ _ _ _ => (pgw_name 1 sc_step_shown.nd), fun _ _ _ _ _ => PED.eq (pd_strI B.str (pd_var 1 rfl) (sm_log (by cases hx))) (by cases hx), rfl⟩) (small_size (by decide))) ⟨(rfl : ("" : Str) = S []), 9, (fun i hi => by cases hi), by show 0 * (9 + 0) ≤ 16777216; decide⟩) (.addS ?_)) ?_
    · rw [e1, S_len, S_len]; omega
    · rw [e1, S_cat, S_len, S_len, List.length_append]
      show (num p.1).length + (tWay p.2.1).length + 0 ≤ sizeLine
      omega
    · rw [e1, S_cat, S_cat]
      rfl
def p_push_in (ds : List Sl) (r : PyData) : Prop := ∃ (i wy : Int), ds = [D (.str (S (num i ++ tWay wy)))] ∧ sm i ∧ isWay wy ∧ r = .tuple [.int i, .int wy]
/-! push_in -/
theorem sc_push_in : FnScope ["word"] ["word"] (defScope s_push_in) := ⟨rfl, rfl, rfl, by decide +kernel, rfl, by decide +kernel, by decide +kernel⟩
theorem ok_push_in {f f_count_in f_way_in : Addr} {fd : FuncData} (F : FnP K "push_in" s_push_in f fd) (hm : mg "push_in" = some (.ref f)) (B : Frs mg) (h_count_in : Has P w K mg base 2 "count_in" ["word"] p_count_in f_count_in) (h_way_in : Has P w K mg base 2 "way_in" ["word"] p_way_in f_way_in)  : Has P w K mg base 3 "push_in" ["word"] p_push_in f := by
  refine has_of F hm sc_push_in (fun ds r h => by obtain ⟨i, wy, rfl, hi, hw, rfl⟩ := h; rfl) (fun _ _ _ _ _ _ us hl => match us, hl with | [_], _ => rfl) fun cdv A outer s H E ds r hr hp => ?_
  have hu := hr.u100
  obtain ⟨i, wy, rfl, hi, hw, rfl⟩ := hp
  apply ends_rt
  have l1 := num_len hi
  have hz : (S (num i ++ tWay wy)).length ≤ sizeLine := S_size (by rw [List.length_append]; show _ + 1 ≤ _; omega)
  refine b_ret (pd_tup (ps := [_, _]) (pad_cons (pd_call h_count_in (hr.mono (by decide)) (pad_cons (pd_slice (pd_var 0 rfl) pod_none (pod_some (pd_neg pd_int)) (.str hz)) pad_nil) ⟨i, ?_, hi, rfl⟩) (pad_cons (pd_call h_way_in (hr.mono (by decide)) (pad_cons (pd_slice (pd_var 0 rfl) (pod_some (pd_neg pd_int)) pod_none (.str hz)) pad_nil) ⟨wy, ?_, hw, rfl⟩) pad_nil))) rfl
  · rw [show cutS (S (num i ++ tWay wy)) none (some (-1)) = S (num i) from cut_but]
  · rw [show cutS (S (num i ++ tWay wy)) (some (-1)) none = S (tWay wy) from cut_end]
def p_shown_in (ds : List Sl) (r : PyData) : Prop := ∃ v : Int, ds = [D (.str (S (tUnit v)))] ∧ unit3 v ∧ r = .int v
/-! shown_in -/
theorem sc_shown_in : FnScope ["word"] ["word"] (defScope s_shown_in) := ⟨rfl, rfl, rfl, by decide +kernel, rfl, by decide +kernel, by decide +kernel⟩
theorem ok_shown_in {f f_sure : Addr} {fd : FuncData} (F : FnP K "shown_in" s_shown_in f fd) (hm : mg "shown_in" = some (.ref f)) (B : Frs mg) (h_sure : Has P w K mg base 1 "sure" ["good"] p_sure f_sure)  : Has P w K mg base 2 "shown_in" ["word"] p_shown_in f := by
  refine has_of F hm sc_shown_in (fun ds r h => by obtain ⟨v, rfl, hv, rfl⟩ := h; rfl) (fun _ _ _ _ _ _ us hl => match us, hl with | [_], _ => rfl) fun cdv A outer s H E ds r hr hp => ?_
  have hu := hr.u100
  obtain ⟨v, rfl, hv, rfl⟩ := hp
  apply ends_rt
  rcases hv with rfl | rfl | rfl
  · haveI : Ly (.str (S (tUnit 1))) 0 := ⟨.str (by decide +kernel)⟩
    refine pbd_drop (pd_call h_sure (hr.mono (by decide)) (pad_cons (pd_cmp hu (pd_var 0 rfl) (pd_lst (ps := [_, _, _]) (pad_cons pd_str (pad_cons pd_str (pad_cons pd_str pad_nil)))) (.inL Ly.shp Ly.shp)) pad_nil) ⟨congrArg (fun b => [D (PyData.bool b)]) ?_, rfl⟩) ?_
    · simp only [List.any_cons, List.any_nil, eqv_str]
      decide +kernel
    exact b_ret (PED.eq (pd_intS (n := 1) B.int (pd_var 0 rfl) (by decide +kernel) (by decide +kernel)) rfl) rfl
  · haveI : Ly (.str (S (tUnit (-1)))) 0 := ⟨.str (by decide +kernel)⟩
    refine pbd_drop (pd_call h_sure (hr.mono (by decide)) (pad_cons (pd_cmp hu (pd_var 0 rfl) (pd_lst (ps := [_, _, _]) (pad_cons pd_str (pad_cons pd_str (pad_cons pd_str pad_nil)))) (.inL Ly.shp Ly.shp)) pad_nil) ⟨congrArg (fun b => [D (PyData.bool b)]) ?_, rfl⟩) ?_
    · simp only [List.any_cons, List.any_nil, eqv_str]
      decide +kernel
    exact b_ret (PED.eq (pd_intS (n := -1) B.int (pd_var 0 rfl) (by decide +kernel) (by decide +kernel)) rfl) rfl
  · haveI : Ly (.str (S (tUnit 0))) 0 := ⟨.str (by decide +kernel)⟩
    refine pbd_drop (pd_call h_sure (hr.mono (by decide)) (pad_cons (pd_cmp hu (pd_var 0 rfl) (pd_lst (ps := [_, _, _]) (pad_cons pd_str (pad_cons pd_str (pad_cons pd_str pad_nil)))) (.inL Ly.shp Ly.shp)) pad_nil) ⟨congrArg (fun b => [D (PyData.bool b)]) ?_, rfl⟩) ?_
    · simp only [List.any_cons, List.any_nil, eqv_str]
      decide +kernel
    exact b_ret (PED.eq (pd_intS (n := 0) B.int (pd_var 0 rfl) (by decide +kernel) (by decide +kernel)) rfl) rfl
end
end Ct

-- W18
set_option Elab.async false
set_option linter.all false
set_option maxRecDepth 100000
set_option maxHeartbeats 1000000
/-! W18: texts.py: a deed read (printed by gen2.py from W18.src). -/
namespace Ct
open PySem PySem.Spec L2 SX CwR
/-! ### replace, find -/
theorem replace_split {x y z : Str} (hy : TL.tl y ≠ []) (hk : y.cps.all (· < 256) = true) (hl : y.length ≤ x.length) : Txt.replace x y z = Txt.join z (Txt.split x y) := by
  unfold Txt.replace Txt.split
  have h1 : (decide (x.length < y.length) || decide (Builtin.Str.strKind x < Builtin.Str.strKind y)) = false := by
    rw [decide_eq_false (by omega), decide_eq_false (TL.kind_ok hk)]; rfl
  have hy1 := TL.len1 hy
  have h2 : (y.length == 0) = false := by simp; omega
  rw [h1, h2, if_neg Bool.false_ne_true, Bool.false_and, Bool.or_false]
  split
  · rfl
  · rfl
theorem find_at {l r : Ls} {c : Nat} (h : c ∉ l) : Txt.find (S (l ++ [c] ++ r)) (S [c]) = l.length := by
  have hy : TL.tl (S [c]) ≠ [] := by show [c] ≠ []; simp
  have hat : StrLaws.At (S (l ++ [c] ++ r)) (S [c]) (S (l ++ [c] ++ r)).length l.length := by
    rw [TL.at_iff hy]
    show TL.pre [c] ((l ++ [c] ++ r).drop l.length) = true
    rw [List.append_assoc, List.drop_left' rfl]
    exact TL.pre_self [c] r
  have hno : ∀ k, k < l.length → ¬ StrLaws.At (S (l ++ [c] ++ r)) (S [c]) (S (l ++ [c] ++ r)).length k := fun k hk q => by
    rw [TL.at_iff hy] at q
    have q' : TL.pre [c] ((l ++ [c] ++ r).drop k) = true := q
    have e : (l ++ [c] ++ r).drop k = l[k] :: ((l ++ [c] ++ r).drop (k + 1)) := by
      rw [List.append_assoc, List.drop_eq_getElem_cons (by rw [List.length_append]; omega), List.getElem_append_left hk]
    rw [e, TL.pre_of_head _ _ (fun z => h (by rw [← z]; exact List.getElem_mem hk))] at q'
    cases q'
  rcases PyProof.Rows.find_whole (S (l ++ [c] ++ r)) (S [c]) with ⟨_, q⟩ | ⟨i, e, q1, q2⟩
  · exact absurd hat (q _)
  · rw [e]
    rcases Nat.lt_trichotomy i l.length with h1 | h1 | h1
    · exact absurd q1 (hno i h1)
    · rw [h1]
    · exact absurd hat (q2 _ h1)
theorem sign_at {l r : Ls} {c : Nat} (hl : ∀ x ∈ l, 48 ≤ x ∧ x ≤ 57) (hr : ∀ x ∈ r, 48 ≤ x ∧ x ≤ 57) (hc : c = 43 ∨ c = 45) : Txt.find (Txt.replace (S (l ++ [c] ++ r)) "-" "+") "+" = l.length := by
  have em : ("-" : Str) = S [45] := rfl
  have ep : ("+" : Str) = S [43] := rfl
  have n1 : 45 ∉ l := fun q => by have := hl _ q; omega
  have n2 : 45 ∉ r := fun q => by have := hr _ q; omega
  have n3 : 43 ∉ l := fun q => by have := hl _ q; omega
  rw [em, ep, replace_split (by show [45] ≠ []; simp) (by decide +kernel) (by rw [S_len, S_len]; simp; omega), split_S (by simp) (by simp)]
  have key : Txt.join (S [43]) ((TL.spl [45] 0 [] (l ++ [c] ++ r)).map S) = S (l ++ [43] ++ r) := by
    rw [join_S]
    rcases hc with rfl | rfl
    · rw [TL.spl_last1 (s := 45) (S := []) (by intro q; simp only [List.mem_append, List.mem_singleton] at q; rcases q with (q | q) | q <;> first | exact n1 q | exact n2 q | omega)]
      rfl
    · rw [List.append_assoc, TL.spl_part1 (s := 45) (S := []) n1, TL.spl_last1 (s := 45) (S := []) n2]
      simp [TL.joinL]
  rw [key]
  exact find_at n3
/-! ### where a token is out -/
theorem _root_.L2.PSsT.nox {X : Cx} {st : List Stmt} {t : TS} (h : PSsT X.nox st t) : PSsT X st t := fun pins s σ H D h0 I hw =>
  wpAny_mono (h pins s σ H D h0 (I.wish _) hw) (fun _ _ q => q.unwish) fun _ _ z => False.elim z
section
variable {X : Cx} {o e : Expr} {to te : TE}
theorem pet_m1 {id : String} {name : Str} {apos pos : Pos} {r : V → List V → Hp → VK → Prop} (slot : Slot "str" name id) (ty : typeOf (.builtin id) = pure (.type "method_descriptor")) (rule : MtR X id r) (ho : PET X o to) (he : PE X e te)
    (hs : starEach [e] X.env = [(false, eval e X.env)] := by rfl) (hbase : attributeBase o name X.env (eval o X.env) = eval o X.env := by rfl) (hline : (apos.endLine == pos.line) = true := by rfl) :
    PET X (.Call (.Attribute o name apos) [e] [] pos) (tM1 r to te) := by
  intro pins s σ H Q h0 I h
  refine PySem.Call_method1 hbase hs hline (thn (ho pins s σ H _ h0 I h) fun v s1 ⟨x, H1, I1, r1, q1⟩ => ?_)
  obtain ⟨⟨a, rfl⟩, q1⟩ := q1
  obtain ⟨t, rfl⟩ := _root_.id r1
  refine ⟨"str", _, PySem.F.plainAttrs_str, slot, ty, typeIs_str _ _ _, (fun _ e => nomatch e), Calls.callWith_builtin rfl (Calls.evalArgs_plain (Calls.spliced_cons ?_))⟩
  exact thn (he.run pins s1 σ H1 _ I1 q1) fun u s2 ⟨y, H2, I2, r2, q2⟩ => Calls.spliced_nil (rule pins s2 σ H2 _ [y] _ [u] Q I2 r1 (.cons r2 .nil) q2)
theorem psst_setD {i : Nat} {x : Str} {d : Sl} {δ δ1 : List Sl} {rest : List Stmt} {oo : Out} {pos pos' : Pos} (hN : X.N.Nodup) (h : PET X e te) (k : ∀ σ H Q, tD X.prog X.w δ d δ1 σ H Q → te σ H Q) (hr : PBD X (δ1.set i d) [rest] oo) (hi : X.N[i]? = some x := by rfl) (hx : Loc X.env.scope x := by first | exact Or.inl rfl | exact Or.inr rfl)
    (hs : swapsWith e (some (.Name x pos')) pos.line X.env = pure false := by rfl) (hf : X.fn x = true ∨ X.env.scope.names.lookup x = some .local := by first | exact .inl rfl | exact .inr rfl | assumption) :
    PSsT X (.Assign [.Name x pos'] e pos :: rest) (tDS X.prog X.w δ oo) := by
  have hset : PST X (.Assign [.Name x pos'] e pos) (tAsg te (gName i)) := by
    intro pins s σ H D h0 I q
    refine wpAny_Assign_Name (thn (h pins s σ H _ h0 I q) fun v s1 ⟨y, H1, I1, r1, q1⟩ => ?_) hs
    exact store_ok I1 hN hi hx r1 (fun s2 I2 => ⟨_, H1, I2, q1⟩) hf
  intro pins s σ H D h0 I ⟨G0, H0, G, S, q⟩
  refine (psst_cons hset (PSsT.of hr.pss)) pins s σ H D h0 I ?_
  exact k σ H _ ⟨G0, H0, G, S, fun v G' H' g S' rv => ⟨G0, H0, G', S'.store rv, q.up g⟩⟩
end
section
variable {P : Program} {w : World} {K : PySem.W.Frag} {mg : Str → Option Value} {base : Heap}
theorem has_ofT {x name : Str} {n : Nat} {st : Stmt} {N ps : List Str} {pre : List Sl → PyData → Prop} {f : Addr} {fd : FuncData} (F : FnP K name st f fd) (hm : mg x = some (.ref f)) (S : FnScope N ps (defScope st)) (hnc : ∀ y ∈ (defScope st).names, y.2 ≠ .cell) (hps : 1 ≤ ps.length)
    (len : ∀ ds r, pre ds r → ds.length = ps.length)
    (hb : ∀ (kV doc pm : Value) (an : Option Addr) (cdv ct : Value) (us : List Value), us.length = ps.length → bindArgs (PySem.W.fnOf name name (defArgs st) (defBody st) (defScope st) .none kV doc pm an cdv ct) ⟨us, []⟩ = pure (ps.zip us))
    (body : ∀ (cdv : Value) (A : Around) (outer : List Env) (s : Shared) (H : Hp) (E : XK) (ds : List Sl) (r : PyData), Room n (A.deeper (PyProof.Rows.envOfC name (defScope st) s.heap.objs.size f cdv)) → pre ds r →
      PSsT (Xf P w K mg base N name st f cdv A outer s H E) (defBody st) (tDS P w (st0 N ds) (.rt r []))) : Has P w K mg base (n + 1) x ps pre f := by
  refine ⟨hm, F.kp, fd, F.bindsN hb, ?_⟩
  obtain ⟨oc, od, dV, kV, doc, pm, an, cdv, ct, osl, rfl, lk, hcd, _, _⟩ := F.ex
  refine fn_ofT lk hcd S hnc hps (fun vs H Q E h => ?_) fun A outer s H vs Q E hr h => ?_
  · obtain ⟨G, ds, r, hp, g, rv, q⟩ := h
    rw [Paired.length rv]; exact len ds r hp
  · obtain ⟨G, ds, r, hp, g, rv, q⟩ := h
    have hl : vs.length ≤ N.length := by
      rw [Paired.length rv, len ds r hp]
      have := congrArg List.length S.pre
      rw [List.length_take] at this; omega
    exact ⟨_, PSsT.nox (body cdv A outer s H E ds r hr hp), G, H, G, stok_start g rv hl, fun v σ G' H' g' S' r' => q v G' H' S'.leave r'⟩
def p_deed_in (ds : List Sl) (r : PyData) : Prop := ∃ p : Stp, ds = [D (.str (S (tStep true p)))] ∧ stepSm p ∧ r = dStep true p
theorem sc_deed_in : FnScope ["word", "at"] ["word"] (defScope s_deed_in) := ⟨rfl, rfl, rfl, by decide +kernel, rfl, by decide +kernel, by decide +kernel⟩
theorem ok_deed_in {f f_sure f_push_in f_count_in : Addr} {fd : FuncData} (F : FnP K "deed_in" s_deed_in f fd) (hm : mg "deed_in" = some (.ref f)) (B : Frs mg) (h_sure : Has P w K mg base 1 "sure" ["good"] p_sure f_sure) (h_push_in : Has P w K mg base 3 "push_in" ["word"] p_push_in f_push_in) (h_count_in : Has P w K mg base 2 "count_in" ["word"] p_count_in f_count_in) : Has P w K mg base 4 "deed_in" ["word"] p_deed_in f := by
  refine has_ofT F hm sc_deed_in (by decide +kernel) (by decide) (fun ds r h => by obtain ⟨p, rfl, hp, rfl⟩ := h; rfl) (fun _ _ _ _ _ _ us hl => match us, hl with | [_], _ => rfl) fun cdv A outer s H E ds r hr hp => ?_
  have hu := hr.u100
  obtain ⟨p, rfl, hp, rfl⟩ := hp
  have hl := tStep_len (deed := true) hp
  obtain ⟨i, wy, n⟩ := p
  obtain ⟨h1, h2, h3⟩ := hp
  have h1 : sm i := h1
  have h3 : sm n := h3
  have h2 : isWay wy := h2
  have ew : tStep true (i, wy, n) = num i ++ tWay wy ++ num n := rfl
  have hz : (S (tStep true (i, wy, n))).length ≤ sizeLine := S_size (by omega)
  have hz2 : (S (tStep true (i, wy, n))).length + ((S (tStep true (i, wy, n))).length + 1) * ("+" : Str).length ≤ 16777216 := by
    have e1 : ("+" : Str).length = 1 := rfl
    rw [S_len, e1]; omega
  have hat : Txt.find (Txt.replace (S (tStep true (i, wy, n))) "-" "+") "+" = ((num i).length : Nat) := by
    rw [ew]
    unfold tWay
    split
    · exact sign_at (fun x hx => num_digit hx) (fun x hx => num_digit hx) (.inl rfl)
    · exact sign_at (fun x hx => num_digit hx) (fun x hx => num_digit hx) (.inr rfl)
  have c1 : cutS (S (tStep true (i, wy, n))) none (some (((num i).length : Nat) + 1 : Int)) = S (num i ++ tWay wy) := by
    have e : (((num i).length : Nat) + 1 : Int) = (((num i ++ tWay wy).length : Nat) : Int) := by rw [List.length_append]; rfl
    rw [ew, e, cut_to (by rw [List.length_append (as := num i ++ tWay wy)]; omega), List.take_left' rfl]
  have c2 : cutS (S (tStep true (i, wy, n))) (some (((num i).length : Nat) + 1 : Int)) none = S (num n) := by
    have e : (((num i).length : Nat) + 1 : Int) = (((num i ++ tWay wy).length : Nat) : Int) := by rw [List.length_append]; rfl
    rw [ew, e, cut_from (by rw [List.length_append (as := num i ++ tWay wy)]; omega), List.drop_left' rfl]
  have hrep : ∀ pq, PE (Xf P w K mg base ["word", "at"] "deed_in" s_deed_in f cdv A outer s H E) (.Name "word" pq) (tD P w [D (.str (S (tStep true (i, wy, n)))), .any] (D (.str (S (tStep true (i, wy, n))))) [D (.str (S (tStep true (i, wy, n)))), .any]) := fun pq => pd_var 0 rfl
  refine psst_setD (i := 1) (d := D (.int ((num i).length : Nat))) (δ1 := [D (.str (S (tStep true (i, wy, n)))), .any]) sc_deed_in.nd (pet_m1 PySem.F.slot_str_find PySem.F.type_str_find mt_find (pet_replC (hrep _)) pe_str) (fun σ H Q h => ?_) ?_
  · obtain ⟨G0, H0, G, St, q⟩ := h
    refine ⟨G0, H0, G, St, fun v G' H' sm' S' rv => ?_⟩
    cases dt_str rv
    exact ⟨_, rfl, hz2, ⟨_, rfl⟩, _, _, rfl, rfl, q _ G' H' sm' S' (by rw [hat]; exact Dt.int _)⟩
  · refine pbd_drop (pd_call h_sure (hr.mono (by decide)) (pad_cons (pd_cmp hu (pd_var 1 rfl) pd_int .ge) pad_nil) ⟨?_, rfl⟩) ?_
    · exact congrArg (fun b => [D (PyData.bool b)]) (decide_eq_true (Int.natCast_nonneg _))
    refine b_ret (pd_bin (pd_call h_push_in (hr.mono (by decide)) (pad_cons (pd_slice (pd_var 0 rfl) pod_none (pod_some (pd_bin (pd_var 1 rfl) pd_int .addI)) (.str hz)) pad_nil) ⟨i, wy, congrArg (fun x => [D (PyData.str x)]) c1, h1, h2, rfl⟩) (pd_tup (ps := [_]) (pad_cons (pd_call h_count_in (hr.mono (by decide)) (pad_cons (pd_slice (pd_var 0 rfl) (pod_some (pd_bin (pd_var 1 rfl) pd_int .addI)) pod_none (.str hz)) pad_nil) ⟨n, congrArg (fun x => [D (PyData.str x)]) c2, h3, rfl⟩) pad_nil)) (.addT (show 2 + 1 ≤ sizeLine by decide))) rfl
end
end Ct

-- W19
set_option Elab.async false
set_option linter.all false
set_option maxRecDepth 100000
set_option maxHeartbeats 1000000
/-! W19: texts.py: rows, pushes, marks met, shows (printed by gen2.py from W19.src). -/
namespace Ct
open PySem PySem.Spec L2 SX
/-- a list of words told part by part -/
structure Words {α : Type} (t : α → Ls) (xs : List α) : Prop where
  asc : ∀ x ∈ xs, ∀ c ∈ t x, c < 128 ∧ c ≠ 32 ∧ c ≠ 110
  len : ∃ B, (∀ x ∈ xs, (t x).length ≤ B) ∧ xs.length * (B + 1) ≤ 4500000
theorem Words.plain {α : Type} {t : α → Ls} {xs : List α} (h : Words t xs) : Plain (xs.map t) := fun w hw c hc => by
  obtain ⟨x, hx, rfl⟩ := List.mem_map.mp hw
  exact (h.asc x hx c hc).1
theorem Words.free {α : Type} {t : α → Ls} {xs : List α} (h : Words t xs) : ∀ w ∈ xs.map t, 32 ∉ w ∧ 110 ∉ w := fun w hw => by
  obtain ⟨x, hx, rfl⟩ := List.mem_map.mp hw
  exact ⟨fun q => (h.asc x hx _ q).2.1 rfl, fun q => (h.asc x hx _ q).2.2 rfl⟩
theorem Words.room {α : Type} {t : α → Ls} {xs : List α} (h : Words t xs) : ∃ B, (∀ w ∈ xs.map t, w.length ≤ B) ∧ (xs.map t).length * (B + 1) ≤ 10000000 := by
  obtain ⟨B, hB, hz⟩ := h.len
  refine ⟨B, fun w hw => ?_, by rw [List.length_map]; omega⟩
  obtain ⟨x, hx, rfl⟩ := List.mem_map.mp hw
  exact hB x hx
theorem Words.text {α : Type} {t : α → Ls} {xs : List α} (h : Words t xs) : (tListed (xs.map t)).length ≤ 4500004 := by
  obtain ⟨B, hB, hz⟩ := h.len
  unfold tListed
  split
  · simp
  · have := joinL_len (sep := [32]) (B := B) (ps := xs.map t) fun w hw => by
      obtain ⟨x, hx, rfl⟩ := List.mem_map.mp hw
      exact hB x hx
    rw [List.length_map] at this
    have : (TL.joinL [32] (xs.map t)).length ≤ xs.length * (B + 1) := this
    omega
theorem Words.strs {α : Type} (t : α → Ls) (xs : List α) : xs.map (fun x => PyData.str (S (t x))) = dStrs (xs.map t) := by
  unfold dStrs
  rw [List.map_map]
  rfl
theorem words_step {deed : Bool} {p : List Stp} (h : ∀ x ∈ p, stepSm x) (hl : p.length ≤ 100000) : Words (tStep deed) p :=
  ⟨fun x hx c hc => by have := tStep_mem hc; omega, 20, fun x hx => tStep_len (h x hx), by omega⟩
section
variable {P : Program} {w : World} {K : PySem.W.Frag} {mg : Str → Option Value} {base : Heap}
def p_show_row (ds : List Sl) (r : PyData) : Prop := ∃ (deed : Bool) (p : List Stp), ds = [D (.list (p.map (dStep deed)))] ∧ (∀ x ∈ p, stepSm x) ∧ p.length ≤ 100000 ∧ r = .str (S (tListed (p.map (tStep deed))))
/-! show_row -/
theorem sc_show_row : FnScope ["row", "deed"] ["row"] (defScope s_show_row) := ⟨rfl, rfl, rfl, by decide +kernel, rfl, by decide +kernel, by decide +kernel⟩
theorem ok_show_row {f f_listed f_step_shown : Addr} {fd : FuncData} (F : FnP K "show_row" s_show_row f fd) (hm : mg "show_row" = some (.ref f)) (B : Frs mg) (h_listed : Has P w K mg base 1 "listed" ["words"] p_listed f_listed) (h_step_shown : Has P w K mg base 2 "step_shown" ["step"] p_step_shown f_step_shown)  : Has P w K mg base 3 "show_row" ["row"] p_show_row f := by
  refine has_of F hm sc_show_row (fun ds r h => by obtain ⟨deed, p, rfl, hp, hl, rfl⟩ := h; rfl) (fun _ _ _ _ _ _ us hl => match us, hl with | [_], _ => rfl) fun cdv A outer s H E ds r hr hp => ?_
  have hu := hr.u100
  obtain ⟨deed, p, rfl, hp, hl, rfl⟩ := hp
  apply ends_rt
  have W := words_step (deed := deed) hp hl
  exact b_ret (pd_call h_listed (hr.mono (by decide)) (pad_cons (pd_lcA [("deed", 1)] p (dStep deed) (fun x => .str (S (tStep deed x))) rfl sc_show_row.nd (pid_list (pd_var 0 rfl)) (blkOk_by (N := ["row", "deed"]) (own := [("deed", 1)]) (sc := defScope s_show_row) (by decide +kernel)) (fun x hx => ⟨_, fun _ _ _ _ _ => (pgw_name 1 sc_show_row.nd), fun _ _ _ _ _ => PED.eq (pd_call h_step_shown (hr.mono (by decide)) (pad_cons (pd_var 1 rfl) pad_nil) ⟨deed, x, rfl, hp x hx, rfl⟩) rfl, rfl⟩) (small_size hl)) pad_nil) ⟨p.map (tStep deed), congrArg (fun l => [D (.list l)]) (Words.strs _ _), W.plain, W.room, rfl⟩) rfl
def p_read_row (ds : List Sl) (r : PyData) : Prop := ∃ (p : List Stp), ds = [D (.str (S (tListed (p.map (tStep true)))))] ∧ (∀ x ∈ p, stepSm x) ∧ p.length ≤ 100000 ∧ r = .list (p.map (dStep true))
/-! read_row -/
theorem sc_read_row : FnScope ["text", "word"] ["text"] (defScope s_read_row) := ⟨rfl, rfl, rfl, by decide +kernel, rfl, by decide +kernel, by decide +kernel⟩
theorem ok_read_row {f f_deed_in f_words_in : Addr} {fd : FuncData} (F : FnP K "read_row" s_read_row f fd) (hm : mg "read_row" = some (.ref f)) (B : Frs mg) (h_deed_in : Has P w K mg base 4 "deed_in" ["word"] p_deed_in f_deed_in) (h_words_in : Has P w K mg base 1 "words_in" ["text"] p_words_in f_words_in)  : Has P w K mg base 5 "read_row" ["text"] p_read_row f := by
  refine has_of F hm sc_read_row (fun ds r h => by obtain ⟨p, rfl, hp, hl, rfl⟩ := h; rfl) (fun _ _ _ _ _ _ us hl => match us, hl with | [_], _ => rfl) fun cdv A outer s H E ds r hr hp => ?_
  have hu := hr.u100
  obtain ⟨p, rfl, hp, hl, rfl⟩ := hp
  apply ends_rt
  have W := words_step (deed := true) hp hl
  have ht := W.text
  exact b_ret (pd_lcA [("word", 1)] p (fun x => .str (S (tStep true x))) (dStep true) rfl sc_read_row.nd (PID.eq (pid_list (pd_call h_words_in (hr.mono (by decide)) (pad_cons (pd_var 0 rfl) pad_nil) ⟨p.map (tStep true), rfl, W.plain, W.free, by omega, rfl⟩)) (by rw [Words.strs])) (blkOk_by (N := ["text", "word"]) (own := [("word", 1)]) (sc := defScope s_read_row) (by decide +kernel)) (fun x hx => ⟨_, fun _ _ _ _ _ => (pgw_name 1 sc_read_row.nd), fun _ _ _ _ _ => PED.eq (pd_call h_deed_in (hr.mono (by decide)) (pad_cons (pd_var 1 rfl) pad_nil) ⟨x, rfl, hp x hx, rfl⟩) rfl, rfl⟩) (small_size hl)) rfl
def p_show_pushes := p_show_row
/-! show_pushes -/
theorem sc_show_pushes : FnScope ["pushes", "push"] ["pushes"] (defScope s_show_pushes) := ⟨rfl, rfl, rfl, by decide +kernel, rfl, by decide +kernel, by decide +kernel⟩
theorem ok_show_pushes {f f_listed f_step_shown : Addr} {fd : FuncData} (F : FnP K "show_pushes" s_show_pushes f fd) (hm : mg "show_pushes" = some (.ref f)) (B : Frs mg) (h_listed : Has P w K mg base 1 "listed" ["words"] p_listed f_listed) (h_step_shown : Has P w K mg base 2 "step_shown" ["step"] p_step_shown f_step_shown)  : Has P w K mg base 3 "show_pushes" ["pushes"] p_show_pushes f := by
  refine has_of F hm sc_show_pushes (fun ds r h => by obtain ⟨deed, p, rfl, hp, hl, rfl⟩ := h; rfl) (fun _ _ _ _ _ _ us hl => match us, hl with | [_], _ => rfl) fun cdv A outer s H E ds r hr hp => ?_
  have hu := hr.u100
  obtain ⟨deed, p, rfl, hp, hl, rfl⟩ := hp
  apply ends_rt
  have W := words_step (deed := deed) hp hl
  exact b_ret (pd_call h_listed (hr.mono (by decide)) (pad_cons (pd_lcA [("push", 1)] p (dStep deed) (fun x => .str (S (tStep deed x))) rfl sc_show_pushes.nd (pid_list (pd_var 0 rfl)) (blkOk_by (N := ["pushes", "push"]) (own := [("push", 1)]) (sc := defScope s_show_pushes) (by decide +kernel)) (fun x hx => ⟨_, fun _ _ _ _ _ => (pgw_name 1 sc_show_pushes.nd), fun _ _ _ _ _ => PED.eq (pd_call h_step_shown (hr.mono (by decide)) (pad_cons (pd_var 1 rfl) pad_nil) ⟨deed, x, rfl, hp x hx, rfl⟩) rfl, rfl⟩) (small_size hl)) pad_nil) ⟨p.map (tStep deed), congrArg (fun l => [D (.list l)]) (Words.strs _ _), W.plain, W.room, rfl⟩) rfl
def p_read_pushes (ds : List Sl) (r : PyData) : Prop := ∃ (p : List Stp), ds = [D (.str (S (tListed (p.map (tStep false)))))] ∧ (∀ x ∈ p, stepSm x) ∧ p.length ≤ 100000 ∧ r = .list (p.map (dStep false))
/-! read_pushes -/
theorem sc_read_pushes : FnScope ["text", "word"] ["text"] (defScope s_read_pushes) := ⟨rfl, rfl, rfl, by decide +kernel, rfl, by decide +kernel, by decide +kernel⟩
theorem ok_read_pushes {f f_push_in f_words_in : Addr} {fd : FuncData} (F : FnP K "read_pushes" s_read_pushes f fd) (hm : mg "read_pushes" = some (.ref f)) (B : Frs mg) (h_push_in : Has P w K mg base 3 "push_in" ["word"] p_push_in f_push_in) (h_words_in : Has P w K mg base 1 "words_in" ["text"] p_words_in f_words_in)  : Has P w K mg base 4 "read_pushes" ["text"] p_read_pushes f := by
  refine has_of F hm sc_read_pushes (fun ds r h => by obtain ⟨p, rfl, hp, hl, rfl⟩ := h; rfl) (fun _ _ _ _ _ _ us hl => match us, hl with | [_], _ => rfl) fun cdv A outer s H E ds r hr hp => ?_
  have hu := hr.u100
  obtain ⟨p, rfl, hp, hl, rfl⟩ := hp
  apply ends_rt
  have W := words_step (deed := false) hp hl
  have ht := W.text
  exact b_ret (pd_lcA [("word", 1)] p (fun x => .str (S (tStep false x))) (dStep false) rfl sc_read_pushes.nd (PID.eq (pid_list (pd_call h_words_in (hr.mono (by decide)) (pad_cons (pd_var 0 rfl) pad_nil) ⟨p.map (tStep false), rfl, W.plain, W.free, by omega, rfl⟩)) (by rw [Words.strs])) (blkOk_by (N := ["text", "word"]) (own := [("word", 1)]) (sc := defScope s_read_pushes) (by decide +kernel)) (fun x hx => ⟨_, fun _ _ _ _ _ => (pgw_name 1 sc_read_pushes.nd), fun _ _ _ _ _ => PED.eq (pd_call h_push_in (hr.mono (by decide)) (pad_cons (pd_var 1 rfl) pad_nil) ⟨x.1, x.2.1, by rw [show tStep false x = num x.1 ++ tWay x.2.1 from List.append_nil _], (hp x hx).1, (hp x hx).2.1, rfl⟩) rfl, rfl⟩) (small_size hl)) rfl
/-! what was seen -/
def snSm (x : Sn) : Prop := sm x.1 ∧ isWay x.2.1 ∧ unit3 x.2.2
def shSm (x : Sh) : Prop := isWay x.1 ∧ unit3 x.2
theorem tUnit_len {v : Int} : (tUnit v).length ≤ 2 := by
  unfold tUnit
  split
  · simp
  · split <;> simp
theorem words_sn {l : List Sn} (h : ∀ x ∈ l, snSm x) (hl : l.length ≤ 100000) : Words tSn l := by
  refine ⟨fun x hx c hc => by have := tSn_mem hc; omega, 20, fun x hx => ?_, by omega⟩
  have h1 := num_len (h x hx).1
  have h2 := tUnit_len (v := x.2.2)
  have h3 : (tWay x.2.1).length = 1 := rfl
  unfold tSn
  simp only [List.length_append, List.length_cons, List.length_nil]
  omega
theorem words_sh {l : List Sh} (h : ∀ x ∈ l, shSm x) (hl : l.length ≤ 100000) : Words tSh l := by
  refine ⟨fun x hx c hc => by have := tSh_mem hc; omega, 20, fun x hx => ?_, by omega⟩
  have h2 := tUnit_len (v := x.2)
  have h3 : (tWay x.1).length = 1 := rfl
  unfold tSh
  simp only [List.length_append, List.length_cons, List.length_nil]
  omega
theorem unit_log {v : Int} (h : unit3 v) : v.natAbs.log2 < 1920 := by
  rcases h with rfl | rfl | rfl <;> decide +kernel
theorem unit_str {v : Int} (h : unit3 v) : toString v = S (tUnit v) := by
  rcases h with rfl | rfl | rfl <;> decide +kernel
def p_show_shown (ds : List Sl) (r : PyData) : Prop := ∃ (l : List Sn), ds = [D (.list (l.map dSn))] ∧ (∀ x ∈ l, snSm x) ∧ l.length ≤ 100000 ∧ r = .str (S (tListed (l.map tSn)))
/-! show_shown -/
theorem sc_show_shown : FnScope ["shown", "i", "way", "told"] ["shown"] (defScope s_show_shown) := ⟨rfl, rfl, rfl, by decide +kernel, rfl, by decide +kernel, by decide +kernel⟩
theorem ok_show_shown {f f_listed f_way_shown : Addr} {fd : FuncData} (F : FnP K "show_shown" s_show_shown f fd) (hm : mg "show_shown" = some (.ref f)) (B : Frs mg) (h_listed : Has P w K mg base 1 "listed" ["words"] p_listed f_listed) (h_way_shown : Has P w K mg base 1 "way_shown" ["way"] p_way_shown f_way_shown)  : Has P w K mg base 2 "show_shown" ["shown"] p_show_shown f := by
  refine has_of F hm sc_show_shown (fun ds r h => by obtain ⟨l, rfl, hp, hl, rfl⟩ := h; rfl) (fun _ _ _ _ _ _ us hl => match us, hl with | [_], _ => rfl) fun cdv A outer s H E ds r hr hp => ?_
  have hu := hr.u100
  obtain ⟨l, rfl, hp, hl, rfl⟩ := hp
  apply ends_rt
  have W := words_sn hp hl
  have hsz : sizeLine = 2 ^ 24 := rfl
  have ee : ("=" : Str) = S [61] := rfl
  refine b_ret (pd_call h_listed (hr.mono (by decide)) (pad_cons (pd_lcA [("i", 1), ("way", 2), ("told", 3)] l dSn (fun x => .str (S (tSn x))) rfl sc_show_shown.nd (pid_list (pd_var 0 rfl)) (blkOk_by (N := ["shown", "i", "way", "told"]) (own := [("i", 1), ("way", 2), ("told", 3)]) (sc := defScope s_show_shown) (by decide +kernel)) (fun x hx => ⟨_, fun _ _ _ _ _ => (pgw_tup rfl (pgws_cons (pgw_name 1 sc_show_shown.nd) (pgws_cons (pgw_name 2 sc_show_shown.nd) (pgws_cons (pgw_name 3 sc_show_shown.nd) pgws_nil)))), fun _ _ _ _ _ => PED.eq (pd_bin (pd_bin (pd_bin (pd_strI B.str (pd_var 1 rfl) (sm_log (hp x hx).1)) (pd_call h_way_shown (hr.mono (by decide)) (pad_cons (pd_var 2 rfl) pad_nil) ⟨x.2.1, rfl, (hp x hx).2.1, rfl⟩) (.addS ?_)) pd_str (.addS ?_)) (pd_strI B.str (pd_var 3 rfl) (unit_log (hp x hx).2.2)) (.addS ?_)) (by rw [num_str (hp x hx).1.1, unit_str (hp x hx).2.2, ee, S_cat, S_cat, S_cat]; rfl), rfl⟩) (small_size hl)) pad_nil) ⟨l.map tSn, congrArg (fun l => [D (.list l)]) (Words.strs _ _), W.plain, W.room, rfl⟩) rfl
  · have h1 := num_len (hp x hx).1
    have h3 : (tWay x.2.1).length = 1 := rfl
    rw [num_str (hp x hx).1.1, S_len, S_len]
    omega
  · have h1 := num_len (hp x hx).1
    have h3 : (tWay x.2.1).length = 1 := rfl
    rw [num_str (hp x hx).1.1, ee, S_cat, S_len, S_len, List.length_append, List.length_singleton]
    omega
  · have h1 := num_len (hp x hx).1
    have h2 := tUnit_len (v := x.2.2)
    have h3 : (tWay x.2.1).length = 1 := rfl
    rw [num_str (hp x hx).1.1, unit_str (hp x hx).2.2, ee, S_cat, S_cat, S_len, S_len, List.length_append, List.length_append, List.length_singleton]
    omega
def p_read_shown (ds : List Sl) (r : PyData) : Prop := ∃ (l : List Sn), ds = [D (.str (S (tListed (l.map tSn))))] ∧ (∀ x ∈ l, snSm x) ∧ l.length ≤ 100000 ∧ r = .list (l.map dSn)
/-! read_shown -/
theorem sc_read_shown : FnScope ["text", "found", "word", "push", "mark", "told"] ["text"] (defScope s_read_shown) := ⟨rfl, rfl, rfl, by decide +kernel, rfl, by decide +kernel, by decide +kernel⟩
theorem ok_read_shown {f f_words_in f_push_in f_shown_in : Addr} {fd : FuncData} (F : FnP K "read_shown" s_read_shown f fd) (hm : mg "read_shown" = some (.ref f)) (B : Frs mg) (h_words_in : Has P w K mg base 1 "words_in" ["text"] p_words_in f_words_in) (h_push_in : Has P w K mg base 3 "push_in" ["word"] p_push_in f_push_in) (h_shown_in : Has P w K mg base 2 "shown_in" ["word"] p_shown_in f_shown_in)  : Has P w K mg base 4 "read_shown" ["text"] p_read_shown f := by
  refine has_of F hm sc_read_shown (fun ds r h => by obtain ⟨l, rfl, hp, hl, rfl⟩ := h; rfl) (fun _ _ _ _ _ _ us hl => match us, hl with | [_], _ => rfl) fun cdv A outer s H E ds r hr hp => ?_
  have hu := hr.u100
  obtain ⟨l, rfl, hp, hl, rfl⟩ := hp
  apply ends_rt
  have W := words_sn hp hl
  have ht := W.text
  have hsz : sizeLine = 2 ^ 24 := rfl
  refine pbd_own 1 sc_read_shown.nd (ds := []) (pn_lst (ps := []) pad_nil) ?_
  refine pbd_for rfl (pid_list (pd_call h_words_in (hr.mono (by decide)) (pad_cons (pd_var 0 rfl) pad_nil) ⟨l.map tSn, rfl, W.plain, W.free, by omega, rfl⟩)) (fun k δ => ∃ s1 s2 s3 s4 : Sl, δ = [D (.str (S (tListed (l.map tSn)))), .lst ((l.take k).map dSn), s1, s2, s3, s4]) ?_ (fun k d δa hd hI => ?_) (fun δa hI => ?_)
  · exact ⟨.any, .any, .any, .any, rfl⟩
  · obtain ⟨s1, s2, s3, s4, rfl⟩ := hI
    unfold dStrs at hd
    rw [List.map_map, List.getElem?_map] at hd
    obtain ⟨x, hx, rfl⟩ := Option.map_eq_some_iff.mp hd
    have hm := List.mem_of_getElem? hx
    have hkl := (List.getElem?_eq_some_iff.mp hx).1
    have hsm := hp x hm
    have h1 := num_len hsm.1
    have h2 := tUnit_len (v := x.2.2)
    have h3 : (tWay x.2.1).length = 1 := rfl
    refine ⟨_, .nx [D (.str (S (tListed (l.map tSn)))), .lst ((l.take (k + 1)).map dSn), .any, .any, .any, .any], (pgd_name 2 sc_read_shown.nd), ?_, .any, .any, .any, .any, rfl⟩
    refine pbd_asg (pd_partS (pd_var 2 rfl) pd_str ⟨(rfl : S (tSn x) = S ((num x.1 ++ tWay x.2.1) ++ [61] ++ tUnit x.2.2)), rfl, ?_, ?_⟩) (pgd_tup rfl (pgds_cons (pgd_name 3 sc_read_shown.nd) (pgds_cons (pgd_name 4 sc_read_shown.nd) (pgds_cons (pgd_name 5 sc_read_shown.nd) pgds_nil)))) ?_
    · intro q
      rcases List.mem_append.mp q with q | q
      · have := num_digit q; omega
      · have := tWay_mem q; omega
    · simp only [List.length_append, List.length_singleton]
      omega
    refine pbd_append (d := dSn x) 1 rfl (pd_bin (pd_call h_push_in (hr.mono (by decide)) (pad_cons (pd_var 3 rfl) pad_nil) ⟨x.1, x.2.1, rfl, hsm.1, hsm.2.1, rfl⟩) (pd_tup (ps := [_]) (pad_cons (pd_call h_shown_in (hr.mono (by decide)) (pad_cons (pd_var 5 rfl) pad_nil) ⟨x.2.2, rfl, hsm.2.2, rfl⟩) pad_nil)) (.addT (show 2 + 1 ≤ sizeLine by decide))) rfl (by rw [List.length_map, List.length_take]; omega) ?_
    refine pbd_wipe [2, 3, 4, 5] (pbd_nx ?_)
    rw [List.take_add_one, hx, List.map_append]
    rfl
  · obtain ⟨s1, s2, s3, s4, rfl⟩ := hI
    have : (dStrs (l.map tSn)).length = l.length := by unfold dStrs; rw [List.length_map, List.length_map]
    rw [this, List.take_length]
    refine pbd_freeze 1 rfl ?_
    exact b_ret (pd_var 1 rfl) rfl
def p_show_shows (ds : List Sl) (r : PyData) : Prop := ∃ (l : List Sh), ds = [D (.list (l.map dSh))] ∧ (∀ x ∈ l, shSm x) ∧ l.length ≤ 100000 ∧ r = .str (S (tListed (l.map tSh)))
/-! show_shows -/
theorem sc_show_shows : FnScope ["shows", "way", "told"] ["shows"] (defScope s_show_shows) := ⟨rfl, rfl, rfl, by decide +kernel, rfl, by decide +kernel, by decide +kernel⟩
theorem ok_show_shows {f f_listed f_way_shown : Addr} {fd : FuncData} (F : FnP K "show_shows" s_show_shows f fd) (hm : mg "show_shows" = some (.ref f)) (B : Frs mg) (h_listed : Has P w K mg base 1 "listed" ["words"] p_listed f_listed) (h_way_shown : Has P w K mg base 1 "way_shown" ["way"] p_way_shown f_way_shown)  : Has P w K mg base 2 "show_shows" ["shows"] p_show_shows f := by
  refine has_of F hm sc_show_shows (fun ds r h => by obtain ⟨l, rfl, hp, hl, rfl⟩ := h; rfl) (fun _ _ _ _ _ _ us hl => match us, hl with | [_], _ => rfl) fun cdv A outer s H E ds r hr hp => ?_
  have hu := hr.u100
  obtain ⟨l, rfl, hp, hl, rfl⟩ := hp
  apply ends_rt
  have W := words_sh hp hl
  have hsz : sizeLine = 2 ^ 24 := rfl
  have ee : ("=" : Str) = S [61] := rfl
  refine b_ret (pd_call h_listed (hr.mono (by decide)) (pad_cons (pd_lcA [("way", 1), ("told", 2)] l dSh (fun x => .str (S (tSh x))) rfl sc_show_shows.nd (pid_list (pd_var 0 rfl)) (blkOk_by (N := ["shows", "way", "told"]) (own := [("way", 1), ("told", 2)]) (sc := defScope s_show_shows) (by decide +kernel)) (fun x hx => ⟨_, fun _ _ _ _ _ => (pgw_tup rfl (pgws_cons (pgw_name 1 sc_show_shows.nd) (pgws_cons (pgw_name 2 sc_show_shows.nd) pgws_nil))), fun _ _ _ _ _ => PED.eq (pd_bin (pd_bin (pd_call h_way_shown (hr.mono (by decide)) (pad_cons (pd_var 1 rfl) pad_nil) ⟨x.1, rfl, (hp x hx).1, rfl⟩) pd_str (.addS ?_)) (pd_strI B.str (pd_var 2 rfl) (unit_log (hp x hx).2)) (.addS ?_)) (by rw [unit_str (hp x hx).2, ee, S_cat, S_cat]; rfl), rfl⟩) (small_size hl)) pad_nil) ⟨l.map tSh, congrArg (fun l => [D (.list l)]) (Words.strs _ _), W.plain, W.room, rfl⟩) rfl
  · have h3 : (tWay x.1).length = 1 := rfl
    rw [ee, S_len, S_len, List.length_singleton]
    omega
  · have h2 := tUnit_len (v := x.2)
    have h3 : (tWay x.1).length = 1 := rfl
    rw [unit_str (hp x hx).2, ee, S_cat, S_len, S_len, List.length_append, List.length_singleton]
    omega
def p_read_shows (ds : List Sl) (r : PyData) : Prop := ∃ (l : List Sh), ds = [D (.str (S (tListed (l.map tSh))))] ∧ (∀ x ∈ l, shSm x) ∧ l.length ≤ 100000 ∧ r = .list (l.map dSh)
/-! read_shows -/
theorem sc_read_shows : FnScope ["text", "found", "word", "way", "mark", "told"] ["text"] (defScope s_read_shows) := ⟨rfl, rfl, rfl, by decide +kernel, rfl, by decide +kernel, by decide +kernel⟩
theorem ok_read_shows {f f_words_in f_way_in f_shown_in : Addr} {fd : FuncData} (F : FnP K "read_shows" s_read_shows f fd) (hm : mg "read_shows" = some (.ref f)) (B : Frs mg) (h_words_in : Has P w K mg base 1 "words_in" ["text"] p_words_in f_words_in) (h_way_in : Has P w K mg base 2 "way_in" ["word"] p_way_in f_way_in) (h_shown_in : Has P w K mg base 2 "shown_in" ["word"] p_shown_in f_shown_in)  : Has P w K mg base 3 "read_shows" ["text"] p_read_shows f := by
  refine has_of F hm sc_read_shows (fun ds r h => by obtain ⟨l, rfl, hp, hl, rfl⟩ := h; rfl) (fun _ _ _ _ _ _ us hl => match us, hl with | [_], _ => rfl) fun cdv A outer s H E ds r hr hp => ?_
  have hu := hr.u100
  obtain ⟨l, rfl, hp, hl, rfl⟩ := hp
  apply ends_rt
  have W := words_sh hp hl
  have ht := W.text
  have hsz : sizeLine = 2 ^ 24 := rfl
  refine pbd_own 1 sc_read_shows.nd (ds := []) (pn_lst (ps := []) pad_nil) ?_
  refine pbd_for rfl (pid_list (pd_call h_words_in (hr.mono (by decide)) (pad_cons (pd_var 0 rfl) pad_nil) ⟨l.map tSh, rfl, W.plain, W.free, by omega, rfl⟩)) (fun k δ => ∃ s1 s2 s3 s4 : Sl, δ = [D (.str (S (tListed (l.map tSh)))), .lst ((l.take k).map dSh), s1, s2, s3, s4]) ?_ (fun k d δa hd hI => ?_) (fun δa hI => ?_)
  · exact ⟨.any, .any, .any, .any, rfl⟩
  · obtain ⟨s1, s2, s3, s4, rfl⟩ := hI
    unfold dStrs at hd
    rw [List.map_map, List.getElem?_map] at hd
    obtain ⟨x, hx, rfl⟩ := Option.map_eq_some_iff.mp hd
    have hm := List.mem_of_getElem? hx
    have hkl := (List.getElem?_eq_some_iff.mp hx).1
    have hsm := hp x hm
    have h2 := tUnit_len (v := x.2)
    have h3 : (tWay x.1).length = 1 := rfl
    refine ⟨_, .nx [D (.str (S (tListed (l.map tSh)))), .lst ((l.take (k + 1)).map dSh), .any, .any, .any, .any], (pgd_name 2 sc_read_shows.nd), ?_, .any, .any, .any, .any, rfl⟩
    refine pbd_asg (pd_partS (pd_var 2 rfl) pd_str ⟨(rfl : S (tSh x) = S (tWay x.1 ++ [61] ++ tUnit x.2)), rfl, ?_, ?_⟩) (pgd_tup rfl (pgds_cons (pgd_name 3 sc_read_shows.nd) (pgds_cons (pgd_name 4 sc_read_shows.nd) (pgds_cons (pgd_name 5 sc_read_shows.nd) pgds_nil)))) ?_
    · intro q
      have := tWay_mem q; omega
    · simp only [List.length_append, List.length_singleton]
      omega
    refine pbd_append (d := dSh x) 1 rfl (pd_tup (ps := [_, _]) (pad_cons (pd_call h_way_in (hr.mono (by decide)) (pad_cons (pd_var 3 rfl) pad_nil) ⟨x.1, rfl, hsm.1, rfl⟩) (pad_cons (pd_call h_shown_in (hr.mono (by decide)) (pad_cons (pd_var 5 rfl) pad_nil) ⟨x.2, rfl, hsm.2, rfl⟩) pad_nil))) rfl (by rw [List.length_map, List.length_take]; omega) ?_
    refine pbd_wipe [2, 3, 4, 5] (pbd_nx ?_)
    rw [List.take_add_one, hx, List.map_append]
    rfl
  · obtain ⟨s1, s2, s3, s4, rfl⟩ := hI
    have : (dStrs (l.map tSh)).length = l.length := by unfold dStrs; rw [List.length_map, List.length_map]
    rw [this, List.take_length]
    refine pbd_freeze 1 rfl ?_
    exact b_ret (pd_var 1 rfl) rfl
end
end Ct

-- W20
set_option Elab.async false
set_option linter.all false
set_option maxRecDepth 100000
set_option maxHeartbeats 1000000
/-! W20: texts.py: the parts of an answer read (printed by gen2.py from W20.src). -/
namespace Ct
open PySem PySem.Spec L2 SX
section
variable {X : Cx} {tgs : List Expr} {δ δ1 : List Sl} {pos : Pos} {ds : List PyData}
theorem pgd_lst {k : Nat} (hc : X.calm = true) (h : PGDs X δ tgs ds δ1) (hn : (assignEach tgs X.env).length = ds.length := by rfl) (hst : (assignEach tgs X.env).findIdx? (·.1) = none := by rfl) : PGD X δ (.Tuple tgs k pos) (.list ds) δ1 :=
  (pg_lst hc h hn hst).imp fun v σ H Q ⟨G0, H0, G, S, rv, q⟩ => by
    obtain ⟨p, xs, rfl, h1, h2⟩ := dt_lst rv
    exact ⟨p, xs, rfl, .of (S.gh _ _ h1), h2.length, G0, H0, G, S, h2, q⟩
end
section
variable {P : Program} {w : World} {K : PySem.W.Frag} {mg : Str → Option Value} {base : Heap}
def p_two_in (ds : List Sl) (r : PyData) : Prop := ∃ a b : Ls, ds = [D (.str (S (a ++ [126] ++ b)))] ∧ 126 ∉ a ∧ 126 ∉ b ∧ a.length + b.length ≤ 9000000 ∧ r = .list [.str (S a), .str (S b)]
/-! two_in -/
theorem sc_two_in : FnScope ["word", "words"] ["word"] (defScope s_two_in) := ⟨rfl, rfl, rfl, by decide +kernel, rfl, by decide +kernel, by decide +kernel⟩
theorem ok_two_in {f f_sure : Addr} {fd : FuncData} (F : FnP K "two_in" s_two_in f fd) (hm : mg "two_in" = some (.ref f)) (B : Frs mg) (h_sure : Has P w K mg base 1 "sure" ["good"] p_sure f_sure)  : Has P w K mg base 2 "two_in" ["word"] p_two_in f := by
  refine has_of F hm sc_two_in (fun ds r h => by obtain ⟨a, b, rfl, ha, hb, hl, rfl⟩ := h; rfl) (fun _ _ _ _ _ _ us hl => match us, hl with | [_], _ => rfl) fun cdv A outer s H E ds r hr hp => ?_
  have hu := hr.u100
  obtain ⟨a, b, rfl, ha, hb, hl, rfl⟩ := hp
  apply ends_rt
  have ej : TL.joinL [126] [a, b] = a ++ [126] ++ b := by simp [TL.joinL]
  refine pbd_set 1 sc_two_in.nd (s := D (.list [.str (S a), .str (S b)])) (pd_splitS (pd_var 0 rfl) pd_str ⟨(congrArg S ej.symm : S (a ++ [126] ++ b) = S (TL.joinL [126] [a, b])), rfl, by decide, by simp, ?_, ?_⟩) ?_
  · intro v hv
    simp only [List.mem_cons, List.not_mem_nil, or_false] at hv
    rcases hv with rfl | rfl
    · exact ha
    · exact hb
  · rw [ej]
    simp only [List.length_append, List.length_singleton]
    omega
  refine pbd_drop (pd_call h_sure (hr.mono (by decide)) (pad_cons (pd_cmp hu (pd_len B.len (pd_var 1 rfl) .lst) pd_int (.eq Ly.shp Ly.shp)) pad_nil) ⟨rfl, rfl⟩) ?_
  exact b_ret (pd_var 1 rfl) rfl
/-- a stand, small -/
def stSm (s : List Int) : Prop := smAll s ∧ s ≠ [] ∧ s.length ≤ 20
theorem stSm_len {s : List Int} (h : stSm s) : (tStand s).length ≤ 200 := by
  have := tStand_len h.1
  have := h.2.2
  omega
def p_pair_in (ds : List Sl) (r : PyData) : Prop := ∃ p : Pr, ds = [D (.str (S (tPr p)))] ∧ stSm p.1 ∧ stSm p.2 ∧ r = dPair p
/-! pair_in -/
theorem sc_pair_in : FnScope ["word", "one", "other"] ["word"] (defScope s_pair_in) := ⟨rfl, rfl, rfl, by decide +kernel, rfl, by decide +kernel, by decide +kernel⟩
theorem ok_pair_in {f f_two_in f_read_stand : Addr} {fd : FuncData} (F : FnP K "pair_in" s_pair_in f fd) (hm : mg "pair_in" = some (.ref f)) (B : Frs mg) (h_two_in : Has P w K mg base 2 "two_in" ["word"] p_two_in f_two_in) (h_read_stand : Has P w K mg base 3 "read_stand" ["text"] p_read_stand f_read_stand)  : Has P w K mg base 4 "pair_in" ["word"] p_pair_in f := by
  refine has_of F hm sc_pair_in (fun ds r h => by obtain ⟨p, rfl, h1, h2, rfl⟩ := h; rfl) (fun _ _ _ _ _ _ us hl => match us, hl with | [_], _ => rfl) fun cdv A outer s H E ds r hr hp => ?_
  have hu := hr.u100
  obtain ⟨p, rfl, h1, h2, rfl⟩ := hp
  apply ends_rt
  have l1 := stSm_len h1
  have l2 := stSm_len h2
  refine pbd_asg (pd_call h_two_in (hr.mono (by decide)) (pad_cons (pd_var 0 rfl) pad_nil) ⟨tStand p.1, tStand p.2, rfl, ?_, ?_, by omega, rfl⟩) (pgd_lst rfl (pgds_cons (pgd_name 1 sc_pair_in.nd) (pgds_cons (pgd_name 2 sc_pair_in.nd) pgds_nil))) ?_
  · intro q
    have := tStand_mem q; omega
  · intro q
    have := tStand_mem q; omega
  exact b_ret (pd_tup (ps := [_, _]) (pad_cons (pd_call h_read_stand (hr.mono (by decide)) (pad_cons (pd_var 1 rfl) pad_nil) ⟨p.1, rfl, h1.1, h1.2.1, by have := h1.2.2; omega, rfl⟩) (pad_cons (pd_call h_read_stand (hr.mono (by decide)) (pad_cons (pd_var 2 rfl) pad_nil) ⟨p.2, rfl, h2.1, h2.2.1, by have := h2.2.2; omega, rfl⟩) pad_nil))) rfl
def p_bar_in (ds : List Sl) (r : PyData) : Prop := ∃ b : Int × Int, ds = [D (.str (S (tBar b)))] ∧ sm b.1 ∧ sm b.2 ∧ r = dBar b
/-! bar_in -/
theorem sc_bar_in : FnScope ["word", "one", "other"] ["word"] (defScope s_bar_in) := ⟨rfl, rfl, rfl, by decide +kernel, rfl, by decide +kernel, by decide +kernel⟩
theorem ok_bar_in {f f_two_in f_count_in : Addr} {fd : FuncData} (F : FnP K "bar_in" s_bar_in f fd) (hm : mg "bar_in" = some (.ref f)) (B : Frs mg) (h_two_in : Has P w K mg base 2 "two_in" ["word"] p_two_in f_two_in) (h_count_in : Has P w K mg base 2 "count_in" ["word"] p_count_in f_count_in)  : Has P w K mg base 3 "bar_in" ["word"] p_bar_in f := by
  refine has_of F hm sc_bar_in (fun ds r h => by obtain ⟨b, rfl, h1, h2, rfl⟩ := h; rfl) (fun _ _ _ _ _ _ us hl => match us, hl with | [_], _ => rfl) fun cdv A outer s H E ds r hr hp => ?_
  have hu := hr.u100
  obtain ⟨b, rfl, h1, h2, rfl⟩ := hp
  apply ends_rt
  have l1 := num_len h1
  have l2 := num_len h2
  refine pbd_asg (pd_call h_two_in (hr.mono (by decide)) (pad_cons (pd_var 0 rfl) pad_nil) ⟨num b.1, num b.2, rfl, ?_, ?_, by omega, rfl⟩) (pgd_lst rfl (pgds_cons (pgd_name 1 sc_bar_in.nd) (pgds_cons (pgd_name 2 sc_bar_in.nd) pgds_nil))) ?_
  · intro q
    have := num_digit q; omega
  · intro q
    have := num_digit q; omega
  exact b_ret (pd_tup (ps := [_, _]) (pad_cons (pd_call h_count_in (hr.mono (by decide)) (pad_cons (pd_var 1 rfl) pad_nil) ⟨b.1, rfl, h1, rfl⟩) (pad_cons (pd_call h_count_in (hr.mono (by decide)) (pad_cons (pd_var 2 rfl) pad_nil) ⟨b.2, rfl, h2, rfl⟩) pad_nil))) rfl
def p_numbered_in (ds : List Sl) (r : PyData) : Prop := ∃ n : List Int × Int, ds = [D (.str (S (tNum n)))] ∧ stSm n.1 ∧ sm n.2 ∧ r = dNum n
/-! numbered_in -/
theorem sc_numbered_in : FnScope ["word", "stand", "colon", "number"] ["word"] (defScope s_numbered_in) := ⟨rfl, rfl, rfl, by decide +kernel, rfl, by decide +kernel, by decide +kernel⟩
theorem ok_numbered_in {f f_read_stand f_count_in : Addr} {fd : FuncData} (F : FnP K "numbered_in" s_numbered_in f fd) (hm : mg "numbered_in" = some (.ref f)) (B : Frs mg) (h_read_stand : Has P w K mg base 3 "read_stand" ["text"] p_read_stand f_read_stand) (h_count_in : Has P w K mg base 2 "count_in" ["word"] p_count_in f_count_in)  : Has P w K mg base 4 "numbered_in" ["word"] p_numbered_in f := by
  refine has_of F hm sc_numbered_in (fun ds r h => by obtain ⟨n, rfl, h1, h2, rfl⟩ := h; rfl) (fun _ _ _ _ _ _ us hl => match us, hl with | [_], _ => rfl) fun cdv A outer s H E ds r hr hp => ?_
  have hu := hr.u100
  obtain ⟨n, rfl, h1, h2, rfl⟩ := hp
  apply ends_rt
  have l1 := stSm_len h1
  have l2 := num_len h2
  refine pbd_asg (pd_partS (pd_var 0 rfl) pd_str ⟨(rfl : S (tNum n) = S (tStand n.1 ++ [58] ++ num n.2)), rfl, ?_, ?_⟩) (pgd_tup rfl (pgds_cons (pgd_name 1 sc_numbered_in.nd) (pgds_cons (pgd_name 2 sc_numbered_in.nd) (pgds_cons (pgd_name 3 sc_numbered_in.nd) pgds_nil)))) ?_
  · intro q
    have := tStand_mem q; omega
  · simp only [List.length_append, List.length_singleton]
    omega
  exact b_ret (pd_tup (ps := [_, _]) (pad_cons (pd_call h_read_stand (hr.mono (by decide)) (pad_cons (pd_var 1 rfl) pad_nil) ⟨n.1, rfl, h1.1, h1.2.1, by have := h1.2.2; omega, rfl⟩) (pad_cons (pd_call h_count_in (hr.mono (by decide)) (pad_cons (pd_var 3 rfl) pad_nil) ⟨n.2, rfl, h2, rfl⟩) pad_nil))) rfl
def p_wheel_in (ds : List Sl) (r : PyData) : Prop := ∃ (z : Int) (ms : List Int) (bars : List (Int × Int)), ds = [D (.list (dStrs (tPart (.wheel z ms) :: bars.map tBar)))] ∧ (Part.wheel z ms).ok ∧ (∀ b ∈ bars, sm b.1 ∧ sm b.2) ∧ bars.length ≤ 20000 ∧ r = dAns (.wheel z ms bars)
/-! wheel_in -/
theorem sc_wheel_in : FnScope ["words", "part", "word"] ["words"] (defScope s_wheel_in) := ⟨rfl, rfl, rfl, by decide +kernel, rfl, by decide +kernel, by decide +kernel⟩
theorem ok_wheel_in {f f_part_in f_sure f_is_part f_bar_in : Addr} {fd : FuncData} (F : FnP K "wheel_in" s_wheel_in f fd) (hm : mg "wheel_in" = some (.ref f)) (B : Frs mg) (h_part_in : Has P w K mg base 3 "part_in" ["word"] p_part_in f_part_in) (h_sure : Has P w K mg base 1 "sure" ["good"] p_sure f_sure) (h_is_part : Has P w K mg base 3 "is_part" ["thing"] p_is_part f_is_part) (h_bar_in : Has P w K mg base 3 "bar_in" ["word"] p_bar_in f_bar_in)  : Has P w K mg base 4 "wheel_in" ["words"] p_wheel_in f := by
  refine has_of F hm sc_wheel_in (fun ds r h => by obtain ⟨z, ms, bars, rfl, hp, hb, hl, rfl⟩ := h; rfl) (fun _ _ _ _ _ _ us hl => match us, hl with | [_], _ => rfl) fun cdv A outer s H E ds r hr hp => ?_
  have hu := hr.u100
  obtain ⟨z, ms, bars, rfl, hp, hb, hl, rfl⟩ := hp
  apply ends_rt
  have hsz : sizeLine = 2 ^ 24 := rfl
  refine pbd_set 1 sc_wheel_in.nd (s := D (dPart (.wheel z ms))) (pd_call h_part_in (hr.mono (by decide)) (pad_cons (pd_ix (pd_var 0 rfl) pd_int (.lst (atI_nat (j := 0) rfl))) pad_nil) ⟨.wheel z ms, rfl, partSm_of hp, rfl⟩) ?_
  refine pbd_drop (pd_call h_sure (hr.mono (by decide)) (pad_cons (pd_and (pd_call h_is_part (hr.mono (by decide)) (pad_cons (pd_var 1 rfl) pad_nil) ⟨.wheel z ms, rfl, hp, rfl⟩) fun _ => (pd_one (pd_cmp hu (pd_ix (pd_var 1 rfl) pd_int (.tup rfl)) pd_str (.eq Ly.shp Ly.shp)))) pad_nil) ⟨?_, rfl⟩) ?_
  · rfl
  have hc : cutD (dStrs (tPart (.wheel z ms) :: bars.map tBar)) (some 1) none = bars.map fun b => .str (S (tBar b)) := by
    rw [show (1 : Int) = ((1 : Nat) : Int) from rfl, cutD_drop (by show 1 ≤ _ + 1; omega)]
    show List.map _ _ = _
    rw [List.map_map]
    rfl
  refine b_ret (pd_bin (pd_var 1 rfl) (pd_tup (ps := [_]) (pad_cons (pd_lcA [("word", 2)] bars (fun b => .str (S (tBar b))) dBar rfl sc_wheel_in.nd (PID.eq (pid_list (pd_slice (pd_var 0 rfl) (pod_some pd_int) pod_none .lst)) hc) (blkOk_by (N := ["words", "part", "word"]) (own := [("word", 2)]) (sc := defScope s_wheel_in) (by decide +kernel)) (fun x hx => ⟨_, fun _ _ _ _ _ => (pgw_name 2 sc_wheel_in.nd), fun _ _ _ _ _ => PED.eq (pd_call h_bar_in (hr.mono (by decide)) (pad_cons (pd_var 2 rfl) pad_nil) ⟨x, rfl, (hb x hx).1, (hb x hx).2, rfl⟩) rfl, rfl⟩) (small_size (by omega))) pad_nil)) (.addT (show 3 + 1 ≤ sizeLine by decide))) rfl
end
end Ct

-- W21
set_option Elab.async false
set_option linter.all false
set_option maxRecDepth 100000
set_option maxHeartbeats 1000000
/-! W21: texts.py: the steps of an answer read (printed by gen2.py from W21.src). -/
namespace Ct
open PySem PySem.Spec L2 SX
theorem joinL_last {sep : Ls} : ∀ {ws : List Ls} (h : ws ≠ []), ∃ pre, TL.joinL sep ws = pre ++ ws.getLast h
  | [w], _ => ⟨[], rfl⟩
  | w :: v :: ws, _ => by
    obtain ⟨pre, e⟩ := joinL_last (sep := sep) (ws := v :: ws) (by simp)
    refine ⟨w ++ (sep ++ pre), ?_⟩
    show w ++ (sep ++ TL.joinL sep (v :: ws)) = _
    rw [e, List.append_assoc, List.append_assoc]
    rfl
theorem tStep_last (deed : Bool) (p : Stp) : ∃ l c, tStep deed p = l ++ [c] ∧ (if deed then 48 ≤ c ∧ c ≤ 57 else c = 43 ∨ c = 45) := by
  cases deed with
  | true =>
    have hne := num_ne p.2.2
    refine ⟨num p.1 ++ tWay p.2.1 ++ (num p.2.2).dropLast, (num p.2.2).getLast hne, ?_, num_digit (List.getLast_mem hne)⟩
    show num p.1 ++ tWay p.2.1 ++ num p.2.2 = _
    rw [List.append_assoc (num p.1 ++ tWay p.2.1) (num p.2.2).dropLast, List.dropLast_concat_getLast hne]
  | false =>
    refine ⟨num p.1, if p.2.1 = 1 then 43 else 45, ?_, ?_⟩
    · show num p.1 ++ tWay p.2.1 ++ [] = _
      rw [List.append_nil]
      rfl
    · show (if p.2.1 = 1 then 43 else 45) = 43 ∨ (if p.2.1 = 1 then 43 else 45) = 45
      split
      · exact .inl rfl
      · exact .inr rfl
theorem steps_last (deed : Bool) (p : List Stp) : ∃ l c, tListed (p.map (tStep deed)) = l ++ [c] ∧ ((deed = false ∧ p ≠ [] ∧ (c = 43 ∨ c = 45)) ∨ ((deed = true ∨ p = []) ∧ c ≠ 43 ∧ c ≠ 45 ∧ c < 128)) := by
  by_cases hp : p = []
  · subst hp
    exact ⟨[110, 111, 110], 101, rfl, .inr ⟨.inr rfl, by decide, by decide, by decide⟩⟩
  · have hm : p.map (tStep deed) ≠ [] := by simpa using hp
    obtain ⟨pre, e⟩ := joinL_last (sep := [32]) hm
    have e1 : tListed (p.map (tStep deed)) = TL.joinL [32] (p.map (tStep deed)) := if_neg hm
    have e2 : (p.map (tStep deed)).getLast hm = tStep deed (p.getLast hp) := by rw [List.getLast_map]
    obtain ⟨l, c, e3, hc⟩ := tStep_last deed (p.getLast hp)
    refine ⟨pre ++ l, c, by rw [e1, e, e2, e3, List.append_assoc], ?_⟩
    cases deed with
    | true =>
      have hc : 48 ≤ c ∧ c ≤ 57 := hc
      exact .inr ⟨.inl rfl, by omega, by omega, by omega⟩
    | false => exact .inl ⟨rfl, hp, hc⟩
section
variable {P : Program} {w : World} {K : PySem.W.Frag} {mg : Str → Option Value} {base : Heap}
def p_steps_in (ds : List Sl) (r : PyData) : Prop := ∃ (deed : Bool) (p : List Stp), ds = [D (.str (S (tListed (p.map (tStep deed)))))] ∧ (∀ x ∈ p, stepSm x) ∧ p.length ≤ 100000 ∧ r = .list (p.map (dStep deed))
/-! steps_in -/
theorem sc_steps_in : FnScope ["text"] ["text"] (defScope s_steps_in) := ⟨rfl, rfl, rfl, by decide +kernel, rfl, by decide +kernel, by decide +kernel⟩
theorem ok_steps_in {f f_read_row f_read_pushes : Addr} {fd : FuncData} (F : FnP K "steps_in" s_steps_in f fd) (hm : mg "steps_in" = some (.ref f)) (B : Frs mg) (h_read_row : Has P w K mg base 5 "read_row" ["text"] p_read_row f_read_row) (h_read_pushes : Has P w K mg base 4 "read_pushes" ["text"] p_read_pushes f_read_pushes)  : Has P w K mg base 6 "steps_in" ["text"] p_steps_in f := by
  refine has_of F hm sc_steps_in (fun ds r h => by obtain ⟨deed, p, rfl, hp, hl, rfl⟩ := h; rfl) (fun _ _ _ _ _ _ us hl => match us, hl with | [_], _ => rfl) fun cdv A outer s H E ds r hr hp => ?_
  have hu := hr.u100
  obtain ⟨deed, p, rfl, hp, hl, rfl⟩ := hp
  apply ends_rt
  have W := words_step (deed := deed) hp hl
  have ht := W.text
  have hz : (S (tListed (p.map (tStep deed)))).length ≤ sizeLine := S_size (by omega)
  obtain ⟨l, c, e, hc⟩ := steps_last deed p
  have c1 : cutS (S (tListed (p.map (tStep deed)))) (some (-1)) none = S [c] := by rw [e]; exact cut_end
  have hc128 : c < 128 := by
    rcases hc with ⟨_, _, h⟩ | ⟨_, _, _, h⟩ <;> omega
  haveI : Ly (.str (cutS (S (tListed (p.map (tStep deed)))) (some (-1)) none)) 0 := by rw [c1]; exact (Asc.of fun x hx => by rw [List.mem_singleton] at hx; omega).ly
  have e1 : PyData.eqv (.str (cutS (S (tListed (p.map (tStep deed)))) (some (-1)) none)) (.str "+") = decide (c = 43) := by
    rw [c1]
    exact (eqv_S [c] [43] rfl).trans (by simp)
  have e2 : PyData.eqv (.str (cutS (S (tListed (p.map (tStep deed)))) (some (-1)) none)) (.str "-") = decide (c = 45) := by
    rw [c1]
    exact (eqv_S [c] [45] rfl).trans (by simp)
  rcases hc with ⟨rfl, hne, hc⟩ | ⟨hd, h1, h2, _⟩
  · rcases hc with rfl | rfl
    · refine b_ifT (ptd_w (w_orT (ptd_cmp hu (pd_slice (pd_var 0 rfl) (pod_some (pd_neg pd_int)) pod_none (.str hz)) pd_str (.eq Ly.shp Ly.shp)) (by rw [e1]; rfl))) rfl ?_
      exact b_ret (pd_call h_read_pushes (hr.mono (by decide)) (pad_cons (pd_var 0 rfl) pad_nil) ⟨p, rfl, hp, hl, rfl⟩) rfl
    · refine b_ifT (ptd_w (w_orF (ptd_cmp hu (pd_slice (pd_var 0 rfl) (pod_some (pd_neg pd_int)) pod_none (.str hz)) pd_str (.eq Ly.shp Ly.shp)) (by rw [e1]; rfl) (w_or1 (ptd_cmp hu (pd_slice (pd_var 0 rfl) (pod_some (pd_neg pd_int)) pod_none (.str hz)) pd_str (.eq Ly.shp Ly.shp))))) (by rw [e2]; rfl) ?_
      exact b_ret (pd_call h_read_pushes (hr.mono (by decide)) (pad_cons (pd_var 0 rfl) pad_nil) ⟨p, rfl, hp, hl, rfl⟩) rfl
  · refine b_no (ptd_w (w_orF (ptd_cmp hu (pd_slice (pd_var 0 rfl) (pod_some (pd_neg pd_int)) pod_none (.str hz)) pd_str (.eq Ly.shp Ly.shp)) (by rw [e1]; exact decide_eq_false h1) (w_or1 (ptd_cmp hu (pd_slice (pd_var 0 rfl) (pod_some (pd_neg pd_int)) pod_none (.str hz)) pd_str (.eq Ly.shp Ly.shp))))) (by rw [e2]; exact decide_eq_false h2) ?_
    rcases hd with rfl | rfl
    · exact b_ret (pd_call h_read_row (hr.mono (by decide)) (pad_cons (pd_var 0 rfl) pad_nil) ⟨p, rfl, hp, hl, rfl⟩) rfl
    · exact b_ret (pd_call h_read_row (hr.mono (by decide)) (pad_cons (pd_var 0 rfl) pad_nil) ⟨[], rfl, hp, hl, rfl⟩) rfl
end
end Ct

-- W22
set_option Elab.async false
set_option linter.all false
set_option maxRecDepth 100000
set_option maxHeartbeats 1000000
/-! W22: texts.py: an answer told (printed by gen2.py from W22.src). -/
namespace Ct
open PySem PySem.Spec L2 SX
def ansSm : Ans → Prop
  | .alike ps => (∀ p ∈ ps, stSm p.1 ∧ stSm p.2) ∧ ps.length ≤ 10000
  | .apart ws => (∀ w ∈ ws, isWay w) ∧ ws ≠ [] ∧ ws.length ≤ 100000
  | .never ss => (∀ s ∈ ss, stSm s) ∧ ss.length ≤ 10000
  | .row _ p ns => (∀ x ∈ p, stepSm x) ∧ p.length ≤ 10000 ∧ (∀ n ∈ ns, stSm n.1 ∧ sm n.2) ∧ ns.length ≤ 10000
  | .wheel z ms bars => (Part.wheel z ms).ok ∧ (∀ b ∈ bars, sm b.1 ∧ sm b.2) ∧ bars.length ≤ 1000
  | .none_ j k => sm j ∧ sm k
theorem words_pr {ps : List Pr} (h : ∀ p ∈ ps, stSm p.1 ∧ stSm p.2) (hl : ps.length ≤ 10000) : Words tPr ps := by
  refine ⟨fun x hx c hc => by have := tPr_mem hc; omega, 401, fun x hx => ?_, by omega⟩
  have h1 := stSm_len (h x hx).1
  have h2 := stSm_len (h x hx).2
  unfold tPr
  simp only [List.length_append, List.length_cons, List.length_nil]
  omega
theorem words_st {ss : List (List Int)} (h : ∀ s ∈ ss, stSm s) (hl : ss.length ≤ 10000) : Words tStand ss :=
  ⟨fun x hx c hc => by have := tStand_mem hc; omega, 200, fun x hx => stSm_len (h x hx), by omega⟩
theorem words_num {ns : List (List Int × Int)} (h : ∀ n ∈ ns, stSm n.1 ∧ sm n.2) (hl : ns.length ≤ 10000) : Words tNum ns := by
  refine ⟨fun x hx c hc => by have := tNum_mem hc; omega, 210, fun x hx => ?_, by omega⟩
  have h1 := stSm_len (h x hx).1
  have h2 := num_len (h x hx).2
  unfold tNum
  simp only [List.length_append, List.length_cons, List.length_nil]
  omega
theorem tBar_len {b : Int × Int} (h : sm b.1 ∧ sm b.2) : (tBar b).length ≤ 19 := by
  have h1 := num_len h.1
  have h2 := num_len h.2
  unfold tBar
  simp only [List.length_append, List.length_cons, List.length_nil]
  omega
theorem joinL_nil : ∀ ws : List Ls, TL.joinL [] ws = ws.flatten
  | [] => rfl
  | [w] => by simp [TL.joinL]
  | w :: v :: ws => by
    show w ++ ([] ++ TL.joinL [] (v :: ws)) = _
    rw [joinL_nil (v :: ws), List.flatten_cons]
    rfl
theorem ansW_len {z : Int} {ms : List Int} {bars : List (Int × Int)} (h1 : (Part.wheel z ms).ok) (h2 : ∀ b ∈ bars, sm b.1 ∧ sm b.2) (h3 : bars.length ≤ 1000) : (TL.joinL [32] (tPart (.wheel z ms) :: bars.map tBar)).length ≤ 310020 := by
  have hpl := tPart_len (partSm_of h1)
  have h := joinL_len (sep := [32]) (B := 19) (ps := bars.map tBar) fun p hp => by
    obtain ⟨b, hb, rfl⟩ := List.mem_map.mp hp
    exact tBar_len (h2 b hb)
  rw [List.length_map] at h
  have h' : (TL.joinL [32] (bars.map tBar)).length ≤ bars.length * 20 := h
  cases bars with
  | nil =>
    show (tPart (.wheel z ms)).length ≤ _
    omega
  | cons b bars =>
    show (tPart (.wheel z ms) ++ ([32] ++ TL.joinL [32] ((b :: bars).map tBar))).length ≤ _
    rw [List.length_append, List.length_append, List.length_singleton]
    omega
section
variable {P : Program} {w : World} {K : PySem.W.Frag} {mg : Str → Option Value} {base : Heap}
def p_show_answer (ds : List Sl) (r : PyData) : Prop := ∃ a : Ans, ds = [D (dAns a)] ∧ ansSm a ∧ r = .str (S (tAns a))
/-! show_answer -/
theorem sc_show_answer : FnScope ["told", "word", "one", "other", "way", "stand", "numbers", "number", "j", "k"] ["told"] (defScope s_show_answer) := ⟨rfl, rfl, rfl, by decide +kernel, rfl, by decide +kernel, by decide +kernel⟩
theorem ok_show_answer {f f_listed f_two_shown f_show_stand f_show_row f_way_shown f_part_shown : Addr} {fd : FuncData} (F : FnP K "show_answer" s_show_answer f fd) (hm : mg "show_answer" = some (.ref f)) (B : Frs mg) (h_listed : Has P w K mg base 1 "listed" ["words"] p_listed f_listed) (h_two_shown : Has P w K mg base 1 "two_shown" ["one", "other"] p_two_shown f_two_shown) (h_show_stand : Has P w K mg base 1 "show_stand" ["stand"] p_show_stand f_show_stand) (h_show_row : Has P w K mg base 3 "show_row" ["row"] p_show_row f_show_row) (h_way_shown : Has P w K mg base 1 "way_shown" ["way"] p_way_shown f_way_shown) (h_part_shown : Has P w K mg base 1 "part_shown" ["part"] p_part_shown f_part_shown)  : Has P w K mg base 4 "show_answer" ["told"] p_show_answer f := by
  refine has_of F hm sc_show_answer (fun ds r h => by obtain ⟨a, rfl, ha, rfl⟩ := h; rfl) (fun _ _ _ _ _ _ us hl => match us, hl with | [_], _ => rfl) fun cdv A outer s H E ds r hr hp => ?_
  have hu := hr.u100
  obtain ⟨a, rfl, ha, rfl⟩ := hp
  apply ends_rt
  have hsz : sizeLine = 2 ^ 24 := rfl
  cases a with
  | alike ps =>
    obtain ⟨h1, h2⟩ := ha
    have W := words_pr h1 h2
    have ht := W.text
    refine pbd_set 1 sc_show_answer.nd (s := D (.str "alike")) (pd_ix (pd_var 0 rfl) pd_int (.tup rfl)) ?_
    refine b_ifT (ptd_cmp hu (pd_var 1 rfl) pd_str (.eq Ly.shp Ly.shp)) (by first | decide +kernel | simp [PyData.eqv, PyData.eqvAll, dPart, eqv_str, eqv_int, places]) ?_
    refine b_ret (pd_bin pd_str (pd_call h_listed (hr.mono (by decide)) (pad_cons (pd_lcA [("one", 2), ("other", 3)] ps dPair (fun x => .str (S (tPr x))) rfl sc_show_answer.nd (pid_list (pd_ix (pd_var 0 rfl) pd_int (.tup rfl))) (blkOk_by (N := ["told", "word", "one", "other", "way", "stand", "numbers", "number", "j", "k"]) (own := [("one", 2), ("other", 3)]) (sc := defScope s_show_answer) (by decide +kernel)) (fun x hx => ⟨_, fun _ _ _ _ _ => (pgw_tup rfl (pgws_cons (pgw_name 2 sc_show_answer.nd) (pgws_cons (pgw_name 3 sc_show_answer.nd) pgws_nil))), fun _ _ _ _ _ => PED.eq (pd_call h_two_shown (hr.mono (by decide)) (pad_cons (pd_call h_show_stand (hr.mono (by decide)) (pad_cons (pd_var 2 rfl) pad_nil) ⟨x.1, rfl, (h1 x hx).1.1, by have := (h1 x hx).1.2.2; omega, rfl⟩) (pad_cons (pd_call h_show_stand (hr.mono (by decide)) (pad_cons (pd_var 3 rfl) pad_nil) ⟨x.2, rfl, (h1 x hx).2.1, by have := (h1 x hx).2.2.2; omega, rfl⟩) pad_nil)) ⟨tStand x.1, tStand x.2, rfl, by have := stSm_len (h1 x hx).1; have := stSm_len (h1 x hx).2; omega, rfl⟩) rfl, rfl⟩) (small_size (by omega))) pad_nil) ⟨ps.map tPr, congrArg (fun l => [D (.list l)]) (Words.strs _ _), W.plain, W.room, rfl⟩) (.addS ?_)) ?_
    · rw [show ("alike " : Str) = S [97, 108, 105, 107, 101, 32] from rfl, S_len, S_len]
      simp only [List.length_cons, List.length_nil]
      omega
    · rw [show ("alike " : Str) = S [97, 108, 105, 107, 101, 32] from rfl, S_cat]
      rfl
  | apart ws =>
    obtain ⟨h1, h2, h3⟩ := ha
    refine pbd_set 1 sc_show_answer.nd (s := D (.str "apart")) (pd_ix (pd_var 0 rfl) pd_int (.tup rfl)) ?_
    refine b_no (ptd_cmp hu (pd_var 1 rfl) pd_str (.eq Ly.shp Ly.shp)) (by first | decide +kernel | simp [PyData.eqv, PyData.eqvAll, dPart, eqv_str, eqv_int, places]) ?_
    refine b_ifT (ptd_cmp hu (pd_var 1 rfl) pd_str (.eq Ly.shp Ly.shp)) (by first | decide +kernel | simp [PyData.eqv, PyData.eqvAll, dPart, eqv_str, eqv_int, places]) ?_
    have e0 : PyData.eqv (.list (ws.map .int)) (.list []) = false := by
      cases ws with
      | nil => exact absurd rfl h2
      | cons v ws => simp [PyData.eqv, PyData.eqvAll]
    have ej : TL.joinL [] (ws.map tWay) = ws.flatMap tWay := by rw [joinL_nil, List.flatMap]
    have el : (ws.flatMap tWay).length = ws.length := by
      clear h1 h2 h3 e0 ej
      induction ws with
      | nil => rfl
      | cons v ws ih => rw [List.flatMap_cons, List.length_append, ih, List.length_cons]; show 1 + _ = _; omega
    haveI : Ly (.list (ws.map .int)) 1 := inferInstance
    refine b_ret (pd_bin (pd_bin pd_str (pd_joinS pd_str (pd_lcA [("way", 4)] ws .int (fun x => .str (S (tWay x))) rfl sc_show_answer.nd (pid_list (pd_ix (pd_var 0 rfl) pd_int (.tup rfl))) (blkOk_by (N := ["told", "word", "one", "other", "way", "stand", "numbers", "number", "j", "k"]) (own := [("way", 4)]) (sc := defScope s_show_answer) (by decide +kernel)) (fun x hx => ⟨_, fun _ _ _ _ _ => (pgw_name 4 sc_show_answer.nd), fun _ _ _ _ _ => PED.eq (pd_call h_way_shown (hr.mono (by decide)) (pad_cons (pd_var 4 rfl) pad_nil) ⟨x, rfl, h1 x hx, rfl⟩) rfl, rfl⟩) (small_size h3)) ⟨(rfl : ("" : Str) = S []), 1, fun x hx => Nat.le_refl 1, by show ws.length * (1 + 0) ≤ 16777216; omega⟩) (.addS ?_)) (pd_mulS pd_str (pd_intB B.int (pd_cmp hu (pd_ix (pd_var 0 rfl) pd_int (.tup rfl)) (pd_lst (ps := []) pad_nil) (.eq Ly.shp Ly.shp)))) (.addS ?_)) ?_
    · show (S [97, 112, 97, 114, 116, 32]).length + (S (TL.joinL [] (ws.map tWay))).length ≤ sizeLine
      rw [ej, S_len, S_len, el]
      simp only [List.length_cons, List.length_nil]
      omega
    · show (S [97, 112, 97, 114, 116, 32] ++ S (TL.joinL [] (ws.map tWay))).length + (if PyData.eqv (.list (ws.map .int)) (.list []) = true then ("none" : Str) else Str.empty).length ≤ sizeLine
      rw [ej, e0, S_cat, S_len, List.length_append, el]
      simp only [List.length_cons, List.length_nil]
      show _ + 0 ≤ _
      omega
    · show PyData.str (S [97, 112, 97, 114, 116, 32] ++ S (TL.joinL [] (ws.map tWay)) ++ (if PyData.eqv (.list (ws.map .int)) (.list []) = true then ("none" : Str) else Str.empty)) = PyData.str (S (tAns (Ans.apart ws)))
      rw [ej, e0, S_cat, if_neg Bool.false_ne_true, show Str.empty = S [] from rfl, S_cat, List.append_nil]
      rfl
  | never ss =>
    obtain ⟨h1, h2⟩ := ha
    have W := words_st h1 h2
    have ht := W.text
    refine pbd_set 1 sc_show_answer.nd (s := D (.str "never")) (pd_ix (pd_var 0 rfl) pd_int (.tup rfl)) ?_
    refine b_no (ptd_cmp hu (pd_var 1 rfl) pd_str (.eq Ly.shp Ly.shp)) (by first | decide +kernel | simp [PyData.eqv, PyData.eqvAll, dPart, eqv_str, eqv_int, places]) ?_
    refine b_no (ptd_cmp hu (pd_var 1 rfl) pd_str (.eq Ly.shp Ly.shp)) (by first | decide +kernel | simp [PyData.eqv, PyData.eqvAll, dPart, eqv_str, eqv_int, places]) ?_
    refine b_ifT (ptd_cmp hu (pd_var 1 rfl) pd_str (.eq Ly.shp Ly.shp)) (by first | decide +kernel | simp [PyData.eqv, PyData.eqvAll, dPart, eqv_str, eqv_int, places]) ?_
    refine b_ret (pd_bin pd_str (pd_call h_listed (hr.mono (by decide)) (pad_cons (pd_lcA [("stand", 5)] ss dStand (fun x => .str (S (tStand x))) rfl sc_show_answer.nd (pid_list (pd_ix (pd_var 0 rfl) pd_int (.tup rfl))) (blkOk_by (N := ["told", "word", "one", "other", "way", "stand", "numbers", "number", "j", "k"]) (own := [("stand", 5)]) (sc := defScope s_show_answer) (by decide +kernel)) (fun x hx => ⟨_, fun _ _ _ _ _ => (pgw_name 5 sc_show_answer.nd), fun _ _ _ _ _ => PED.eq (pd_call h_show_stand (hr.mono (by decide)) (pad_cons (pd_var 5 rfl) pad_nil) ⟨x, rfl, (h1 x hx).1, by have := (h1 x hx).2.2; omega, rfl⟩) rfl, rfl⟩) (small_size (by omega))) pad_nil) ⟨ss.map tStand, congrArg (fun l => [D (.list l)]) (Words.strs _ _), W.plain, W.room, rfl⟩) (.addS ?_)) ?_
    · rw [show ("never " : Str) = S [110, 101, 118, 101, 114, 32] from rfl, S_len, S_len]
      simp only [List.length_cons, List.length_nil]
      omega
    · rw [show ("never " : Str) = S [110, 101, 118, 101, 114, 32] from rfl, S_cat]
      rfl
  | row deed p ns =>
    obtain ⟨h1, h2, h3, h4⟩ := ha
    have W := words_step (deed := deed) h1 (by omega)
    have ht := W.text
    have W2 := words_num h3 h4
    have ht2 := W2.text
    refine pbd_set 1 sc_show_answer.nd (s := D (.str "row")) (pd_ix (pd_var 0 rfl) pd_int (.tup rfl)) ?_
    refine b_no (ptd_cmp hu (pd_var 1 rfl) pd_str (.eq Ly.shp Ly.shp)) (by first | decide +kernel | simp [PyData.eqv, PyData.eqvAll, dPart, eqv_str, eqv_int, places]) ?_
    refine b_no (ptd_cmp hu (pd_var 1 rfl) pd_str (.eq Ly.shp Ly.shp)) (by first | decide +kernel | simp [PyData.eqv, PyData.eqvAll, dPart, eqv_str, eqv_int, places]) ?_
    refine b_no (ptd_cmp hu (pd_var 1 rfl) pd_str (.eq Ly.shp Ly.shp)) (by first | decide +kernel | simp [PyData.eqv, PyData.eqvAll, dPart, eqv_str, eqv_int, places]) ?_
    refine b_ifT (ptd_cmp hu (pd_var 1 rfl) pd_str (.eq Ly.shp Ly.shp)) (by first | decide +kernel | simp [PyData.eqv, PyData.eqvAll, dPart, eqv_str, eqv_int, places]) ?_
    refine pbd_setLcA 6 [("stand", 5), ("number", 7)] ns dNum (fun x => .str (S (tNum x))) rfl sc_show_answer.nd (pid_list (pd_ix (pd_var 0 rfl) pd_int (.tup rfl))) (blkOk_by (N := ["told", "word", "one", "other", "way", "stand", "numbers", "number", "j", "k"]) (own := [("stand", 5), ("number", 7)]) (sc := defScope s_show_answer) (by decide +kernel)) (fun x hx => ⟨_, fun _ _ _ _ _ => (pgw_tup rfl (pgws_cons (pgw_name 5 sc_show_answer.nd) (pgws_cons (pgw_name 7 sc_show_answer.nd) pgws_nil))), fun _ _ _ _ _ => PED.eq (pd_bin (pd_bin (pd_call h_show_stand (hr.mono (by decide)) (pad_cons (pd_var 5 rfl) pad_nil) ⟨x.1, rfl, (h3 x hx).1.1, by have := (h3 x hx).1.2.2; omega, rfl⟩) pd_str (.addS ?_)) (pd_strI B.str (pd_var 7 rfl) (sm_log (h3 x hx).2)) (.addS ?_)) ?_, rfl⟩) (small_size (by omega)) ?_ (sw_true rfl rfl rfl (by decide +kernel))
    · have := stSm_len (h3 x hx).1
      rw [show (":" : Str) = S [58] from rfl, S_len, S_len, List.length_singleton]
      omega
    · have := stSm_len (h3 x hx).1
      have := num_len (h3 x hx).2
      rw [show (":" : Str) = S [58] from rfl, num_str (h3 x hx).2.1, S_cat, S_len, S_len, List.length_append, List.length_singleton]
      omega
    · rw [show (":" : Str) = S [58] from rfl, num_str (h3 x hx).2.1, S_cat, S_cat]
      rfl
    refine b_ret (pd_bin (pd_bin (pd_bin pd_str (pd_call h_show_row (hr.mono (by decide)) (pad_cons (pd_ix (pd_var 0 rfl) pd_int (.tup rfl)) pad_nil) ⟨deed, p, rfl, h1, by omega, rfl⟩) (.addS ?_)) pd_str (.addS ?_)) (pd_call h_listed (hr.mono (by decide)) (pad_cons (pd_var 6 rfl) pad_nil) ⟨ns.map tNum, congrArg (fun l => [D (.list l)]) (Words.strs _ _), W2.plain, W2.room, rfl⟩) (.addS ?_)) ?_
    · rw [show ("row " : Str) = S [114, 111, 119, 32] from rfl, S_len, S_len]
      simp only [List.length_cons, List.length_nil]
      omega
    · rw [show ("row " : Str) = S [114, 111, 119, 32] from rfl, show ("; " : Str) = S [59, 32] from rfl, S_cat, S_len, S_len]
      simp only [List.length_append, List.length_cons, List.length_nil]
      omega
    · rw [show ("row " : Str) = S [114, 111, 119, 32] from rfl, show ("; " : Str) = S [59, 32] from rfl, S_cat, S_cat, S_len, S_len]
      simp only [List.length_append, List.length_cons, List.length_nil]
      omega
    · rw [show ("row " : Str) = S [114, 111, 119, 32] from rfl, show ("; " : Str) = S [59, 32] from rfl, S_cat, S_cat, S_cat]
      rfl
  | wheel z ms bars =>
    obtain ⟨h1, h2, h3⟩ := ha
    have hps := partSm_of h1
    have hpl := tPart_len hps
    have hB : ∀ x ∈ tPart (.wheel z ms) :: bars.map tBar, x.length ≤ 10020 := fun x hx => by
      rcases List.mem_cons.mp hx with rfl | hx
      · exact hpl
      · obtain ⟨b, hb, rfl⟩ := List.mem_map.mp hx
        have := tBar_len (h2 b hb)
        omega
    refine pbd_set 1 sc_show_answer.nd (s := D (.str "wheel")) (pd_ix (pd_var 0 rfl) pd_int (.tup rfl)) ?_
    refine b_no (ptd_cmp hu (pd_var 1 rfl) pd_str (.eq Ly.shp Ly.shp)) (by first | decide +kernel | simp [PyData.eqv, PyData.eqvAll, dPart, eqv_str, eqv_int, places]) ?_
    refine b_no (ptd_cmp hu (pd_var 1 rfl) pd_str (.eq Ly.shp Ly.shp)) (by first | decide +kernel | simp [PyData.eqv, PyData.eqvAll, dPart, eqv_str, eqv_int, places]) ?_
    refine b_no (ptd_cmp hu (pd_var 1 rfl) pd_str (.eq Ly.shp Ly.shp)) (by first | decide +kernel | simp [PyData.eqv, PyData.eqvAll, dPart, eqv_str, eqv_int, places]) ?_
    refine b_no (ptd_cmp hu (pd_var 1 rfl) pd_str (.eq Ly.shp Ly.shp)) (by first | decide +kernel | simp [PyData.eqv, PyData.eqvAll, dPart, eqv_str, eqv_int, places]) ?_
    refine b_ifT (ptd_cmp hu (pd_var 1 rfl) pd_str (.eq Ly.shp Ly.shp)) (by first | decide +kernel | simp [PyData.eqv, PyData.eqvAll, dPart, eqv_str, eqv_int, places]) ?_
    have hL := ansW_len h1 h2 h3
    refine b_ret (pd_bin pd_str (pd_joinS (t := fun l => l) (xs := tPart (.wheel z ms) :: bars.map tBar) pd_str (PED.eq (pd_bin (pd_lst (ps := [_]) (pad_cons (pd_call h_part_shown (hr.mono (by decide)) (pad_cons (pd_slice (pd_var 0 rfl) pod_none (pod_some pd_int) .tup) pad_nil) ⟨.wheel z ms, rfl, hps, rfl⟩) pad_nil)) (pd_lcA [("j", 8), ("k", 9)] bars dBar (fun b => .str (S (tBar b))) rfl sc_show_answer.nd (pid_list (pd_ix (pd_var 0 rfl) pd_int (.tup rfl))) (blkOk_by (N := ["told", "word", "one", "other", "way", "stand", "numbers", "number", "j", "k"]) (own := [("j", 8), ("k", 9)]) (sc := defScope s_show_answer) (by decide +kernel)) (fun x hx => ⟨_, fun _ _ _ _ _ => (pgw_tup rfl (pgws_cons (pgw_name 8 sc_show_answer.nd) (pgws_cons (pgw_name 9 sc_show_answer.nd) pgws_nil))), fun _ _ _ _ _ => PED.eq (pd_call h_two_shown (hr.mono (by decide)) (pad_cons (pd_strI B.str (pd_var 8 rfl) (sm_log (h2 x hx).1)) (pad_cons (pd_strI B.str (pd_var 9 rfl) (sm_log (h2 x hx).2)) pad_nil)) ⟨num x.1, num x.2, by rw [num_str (h2 x hx).1.1, num_str (h2 x hx).2.1], by have := num_len (h2 x hx).1; have := num_len (h2 x hx).2; omega, rfl⟩) rfl, rfl⟩) (small_size (by omega))) (.addL ?_)) ?_) ⟨(rfl : (" " : Str) = S [32]), 10020, hB, ?_⟩) (.addS ?_)) ?_
    · rw [List.length_map]
      show 1 + _ ≤ _
      omega
    · show PyData.list (_ :: _) = PyData.list (_ :: (bars.map tBar).map _)
      rw [List.map_map]
      rfl
    · rw [List.length_cons, List.length_map]
      show (bars.length + 1) * (10020 + 1) ≤ 16777216
      omega
    · rw [List.map_id', show ("wheel " : Str) = S [119, 104, 101, 101, 108, 32] from rfl, S_len, S_len]
      show 6 + (TL.joinL [32] (tPart (.wheel z ms) :: bars.map tBar)).length ≤ sizeLine
      omega
    · rw [List.map_id', show ("wheel " : Str) = S [119, 104, 101, 101, 108, 32] from rfl, S_cat]
      rfl
  | none_ j k =>
    obtain ⟨h1, h2⟩ := ha
    have l1 := num_len h1
    have l2 := num_len h2
    refine pbd_set 1 sc_show_answer.nd (s := D (.str "none")) (pd_ix (pd_var 0 rfl) pd_int (.tup rfl)) ?_
    refine b_no (ptd_cmp hu (pd_var 1 rfl) pd_str (.eq Ly.shp Ly.shp)) (by first | decide +kernel | simp [PyData.eqv, PyData.eqvAll, dPart, eqv_str, eqv_int, places]) ?_
    refine b_no (ptd_cmp hu (pd_var 1 rfl) pd_str (.eq Ly.shp Ly.shp)) (by first | decide +kernel | simp [PyData.eqv, PyData.eqvAll, dPart, eqv_str, eqv_int, places]) ?_
    refine b_no (ptd_cmp hu (pd_var 1 rfl) pd_str (.eq Ly.shp Ly.shp)) (by first | decide +kernel | simp [PyData.eqv, PyData.eqvAll, dPart, eqv_str, eqv_int, places]) ?_
    refine b_no (ptd_cmp hu (pd_var 1 rfl) pd_str (.eq Ly.shp Ly.shp)) (by first | decide +kernel | simp [PyData.eqv, PyData.eqvAll, dPart, eqv_str, eqv_int, places]) ?_
    refine b_no (ptd_cmp hu (pd_var 1 rfl) pd_str (.eq Ly.shp Ly.shp)) (by first | decide +kernel | simp [PyData.eqv, PyData.eqvAll, dPart, eqv_str, eqv_int, places]) ?_
    refine b_ret (pd_bin (pd_bin (pd_bin pd_str (pd_strI B.str (pd_ix (pd_var 0 rfl) pd_int (.tup rfl)) (sm_log h1)) (.addS ?_)) pd_str (.addS ?_)) (pd_strI B.str (pd_ix (pd_var 0 rfl) pd_int (.tup rfl)) (sm_log h2)) (.addS ?_)) ?_
    · rw [show ("none " : Str) = S [110, 111, 110, 101, 32] from rfl, num_str h1.1, S_len, S_len]
      simp only [List.length_cons, List.length_nil]
      omega
    · rw [show ("none " : Str) = S [110, 111, 110, 101, 32] from rfl, show (" " : Str) = S [32] from rfl, num_str h1.1, S_cat, S_len, S_len]
      simp only [List.length_append, List.length_cons, List.length_nil]
      omega
    · rw [show ("none " : Str) = S [110, 111, 110, 101, 32] from rfl, show (" " : Str) = S [32] from rfl, num_str h1.1, num_str h2.1, S_cat, S_cat, S_len, S_len]
      simp only [List.length_append, List.length_cons, List.length_nil]
      omega
    · rw [show ("none " : Str) = S [110, 111, 110, 101, 32] from rfl, show (" " : Str) = S [32] from rfl, num_str h1.1, num_str h2.1, S_cat, S_cat, S_cat]
      rfl
end
end Ct

-- W23
set_option Elab.async false
set_option linter.all false
set_option maxRecDepth 100000
set_option maxHeartbeats 1000000
/-! W23: texts.py: an answer read (printed by gen2.py from W23.src). -/
namespace Ct
open PySem PySem.Spec L2 SX
theorem count_split {x : Str} {c : Nat} (hc : c < 256) (hl : 1 ≤ x.length) : Txt.count x (S [c]) + 1 = ((Txt.split x (S [c])).length : Nat) := by
  unfold Txt.count Txt.split
  have h1 : (decide (x.length < (S [c]).length) || decide (Builtin.Str.strKind x < Builtin.Str.strKind (S [c]))) = false := by
    rw [decide_eq_false (by show ¬ x.length < 1; omega), decide_eq_false (TL.kind_ok (by show ([c].toArray).all _ = true; simp [hc]))]; rfl
  rw [h1, if_neg Bool.false_ne_true]
  split
  · rename_i h
    rw [List.isEmpty_iff.mp h]
    rfl
  · rw [PyProof.Rows.len_partsBetween]
    rfl
section
variable {X : Cx} {a b : Expr} {δ δ1 δ2 : List Sl} {apos pos : Pos}
theorem pd_part2 {p q : Ls} {c c2 : Nat} {z y : Str} (ha : PED X δ a (D (.str z)) δ1) (hb : PED X δ1 b (D (.str y)) δ2) (h : z = S (p ++ ([c, c2] ++ q)) ∧ y = S [c, c2] ∧ c ∉ p ∧ (p ++ ([c, c2] ++ q)).length ≤ 10000000)
    (hs : starEach [b] X.env = [(false, eval b X.env)] := by rfl) (hbase : attributeBase a "partition" X.env (eval a X.env) = eval a X.env := by rfl) (hline : (apos.endLine == pos.line) = true := by rfl) :
    PED X δ (.Call (.Attribute a "partition" apos) [b] [] pos) (D (.tuple [.str (S p), .str (S [c, c2]), .str (S q)])) δ2 := by
  obtain ⟨rfl, rfl, hf, hl⟩ := h
  refine PED.eq (pd_partition ha hb (by rw [S_len]; rfl) (S_size hl) hs hbase hline) ?_
  rw [SX.partition_some (by simp) (par_head q hf)]
end
theorem signs_S (l : Ls) : signs (S l) = l.map fun c => PyData.str (S [c]) := rfl
theorem signs_ways (ws : List Int) : signs (S (ws.flatMap tWay)) = ws.map fun v => PyData.str (S (tWay v)) := by
  rw [signs_S]
  induction ws with
  | nil => rfl
  | cons v ws ih => rw [List.flatMap_cons, List.map_append, ih]; rfl
section
variable {P : Program} {w : World} {K : PySem.W.Frag} {mg : Str → Option Value} {base : Heap}
def p_read_answer (ds : List Sl) (r : PyData) : Prop := ∃ a : Ans, ds = [D (.str (S (tAns a)))] ∧ ansSm a ∧ r = dAns a
/-! read_answer -/
theorem sc_read_answer : FnScope ["text", "word", "blank", "rest", "one", "sign", "steps", "mark", "numbers", "other"] ["text"] (defScope s_read_answer) := ⟨rfl, rfl, rfl, by decide +kernel, rfl, by decide +kernel, by decide +kernel⟩
theorem ok_read_answer {f f_sure f_wheel_in f_count_in f_steps_in f_pair_in f_way_in f_read_stand f_numbered_in f_words_in : Addr} {fd : FuncData} (F : FnP K "read_answer" s_read_answer f fd) (hm : mg "read_answer" = some (.ref f)) (B : Frs mg) (h_sure : Has P w K mg base 1 "sure" ["good"] p_sure f_sure) (h_wheel_in : Has P w K mg base 4 "wheel_in" ["words"] p_wheel_in f_wheel_in) (h_count_in : Has P w K mg base 2 "count_in" ["word"] p_count_in f_count_in) (h_steps_in : Has P w K mg base 6 "steps_in" ["text"] p_steps_in f_steps_in) (h_pair_in : Has P w K mg base 4 "pair_in" ["word"] p_pair_in f_pair_in) (h_way_in : Has P w K mg base 2 "way_in" ["word"] p_way_in f_way_in) (h_read_stand : Has P w K mg base 3 "read_stand" ["text"] p_read_stand f_read_stand) (h_numbered_in : Has P w K mg base 4 "numbered_in" ["word"] p_numbered_in f_numbered_in) (h_words_in : Has P w K mg base 1 "words_in" ["text"] p_words_in f_words_in)  : Has P w K mg base 7 "read_answer" ["text"] p_read_answer f := by
  refine has_of F hm sc_read_answer (fun ds r h => by obtain ⟨a, rfl, ha, rfl⟩ := h; rfl) (fun _ _ _ _ _ _ us hl => match us, hl with | [_], _ => rfl) fun cdv A outer s H E ds r hr hp => ?_
  have hu := hr.u100
  obtain ⟨a, rfl, ha, rfl⟩ := hp
  apply ends_rt
  have hsz : sizeLine = 2 ^ 24 := rfl
  haveI i1 : Ly (.str (S [97, 108, 105, 107, 101])) 0 := ⟨.str (by decide +kernel)⟩
  haveI i2 : Ly (.str (S [97, 112, 97, 114, 116])) 0 := ⟨.str (by decide +kernel)⟩
  haveI i3 : Ly (.str (S [110, 101, 118, 101, 114])) 0 := ⟨.str (by decide +kernel)⟩
  haveI i4 : Ly (.str (S [114, 111, 119])) 0 := ⟨.str (by decide +kernel)⟩
  haveI i5 : Ly (.str (S [119, 104, 101, 101, 108])) 0 := ⟨.str (by decide +kernel)⟩
  haveI i6 : Ly (.str (S [110, 111, 110, 101])) 0 := ⟨.str (by decide +kernel)⟩
  cases a with
  | alike ps =>
    obtain ⟨h1, h2⟩ := ha
    have W := words_pr h1 h2
    have ht := W.text
    refine pbd_asg (pd_partS (pd_var 0 rfl) pd_str ⟨(show S (tAns (.alike ps)) = S ([97, 108, 105, 107, 101] ++ [32] ++ tListed (ps.map tPr)) from rfl), rfl, by decide, ?_⟩) (pgd_tup rfl (pgds_cons (pgd_name 1 sc_read_answer.nd) (pgds_cons (pgd_name 2 sc_read_answer.nd) (pgds_cons (pgd_name 3 sc_read_answer.nd) pgds_nil)))) ?_
    · simp only [List.length_append, List.length_cons, List.length_nil]
      omega
    refine b_ifT (ptd_cmp hu (pd_var 1 rfl) pd_str (.eq Ly.shp Ly.shp)) (by rw [eqv_str]; decide +kernel) ?_
    exact b_ret (pd_tup (ps := [_, _]) (pad_cons pd_str (pad_cons (pd_lcA [("one", 4)] ps (fun x => .str (S (tPr x))) dPair rfl sc_read_answer.nd (PID.eq (pid_list (pd_call h_words_in (hr.mono (by decide)) (pad_cons (pd_var 3 rfl) pad_nil) ⟨ps.map tPr, rfl, W.plain, W.free, by omega, rfl⟩)) (by rw [Words.strs])) (blkOk_by (N := ["text", "word", "blank", "rest", "one", "sign", "steps", "mark", "numbers", "other"]) (own := [("one", 4)]) (sc := defScope s_read_answer) (by decide +kernel)) (fun x hx => ⟨_, fun _ _ _ _ _ => (pgw_name 4 sc_read_answer.nd), fun _ _ _ _ _ => PED.eq (pd_call h_pair_in (hr.mono (by decide)) (pad_cons (pd_var 4 rfl) pad_nil) ⟨x, rfl, (h1 x hx).1, (h1 x hx).2, rfl⟩) rfl, rfl⟩) (small_size (by omega))) pad_nil))) rfl
  | apart ws =>
    obtain ⟨h1, h2, h3⟩ := ha
    have el : (ws.flatMap tWay).length = ws.length := by
      clear h1 h2 h3
      induction ws with
      | nil => rfl
      | cons v ws ih => rw [List.flatMap_cons, List.length_append, ih, List.length_cons]; show 1 + _ = _; omega
    refine pbd_asg (pd_partS (pd_var 0 rfl) pd_str ⟨(show S (tAns (.apart ws)) = S ([97, 112, 97, 114, 116] ++ [32] ++ ws.flatMap tWay) from rfl), rfl, by decide, ?_⟩) (pgd_tup rfl (pgds_cons (pgd_name 1 sc_read_answer.nd) (pgds_cons (pgd_name 2 sc_read_answer.nd) (pgds_cons (pgd_name 3 sc_read_answer.nd) pgds_nil)))) ?_
    · simp only [List.length_append, List.length_cons, List.length_nil, el]
      omega
    have hasc : ∀ c ∈ ws.flatMap tWay, c = 43 ∨ c = 45 := fun c hc => by
      obtain ⟨v, _, hv⟩ := List.mem_flatMap.mp hc
      exact tWay_mem hv
    haveI : Ly (.str (S (ws.flatMap tWay))) 0 := (Asc.of fun c hc => by have := hasc c hc; omega).ly
    have e0 : PyData.eqv (.str (S (ws.flatMap tWay))) (.str "") = false := by
      refine (eqv_S _ [] rfl).trans (decide_eq_false fun q => h2 ?_)
      have := congrArg List.length q
      rw [el] at this
      exact List.eq_nil_of_length_eq_zero this
    have e1 : PyData.eqv (.str (S (ws.flatMap tWay))) (.str "none") = false := by
      refine (eqv_S _ [110, 111, 110, 101] (by decide +kernel)).trans (decide_eq_false fun q => ?_)
      have := hasc 110 (by rw [q]; exact List.mem_cons_self)
      omega
    refine b_no (ptd_cmp hu (pd_var 1 rfl) pd_str (.eq Ly.shp Ly.shp)) (by rw [eqv_str]; decide +kernel) ?_
    refine b_ifT (ptd_cmp hu (pd_var 1 rfl) pd_str (.eq Ly.shp Ly.shp)) (by rw [eqv_str]; decide +kernel) ?_
    refine pbd_drop (pd_call h_sure (hr.mono (by decide)) (pad_cons (pd_cmp hu (pd_var 3 rfl) pd_str (.ne Ly.shp Ly.shp)) pad_nil) ⟨congrArg (fun b => [D (PyData.bool b)]) (by rw [e0]; rfl), rfl⟩) ?_
    exact b_ret (pd_tup (ps := [_, _]) (pad_cons pd_str (pad_cons (pd_lcA [("sign", 5)] ws (fun x => .str (S (tWay x))) .int rfl sc_read_answer.nd (PID.eq (pid_str (pd_mulS (pd_var 3 rfl) (pd_intB B.int (pd_cmp hu (pd_var 3 rfl) pd_str (.ne Ly.shp Ly.shp))))) (by rw [e1]; exact signs_ways ws)) (blkOk_by (N := ["text", "word", "blank", "rest", "one", "sign", "steps", "mark", "numbers", "other"]) (own := [("sign", 5)]) (sc := defScope s_read_answer) (by decide +kernel)) (fun x hx => ⟨_, fun _ _ _ _ _ => (pgw_name 5 sc_read_answer.nd), fun _ _ _ _ _ => PED.eq (pd_call h_way_in (hr.mono (by decide)) (pad_cons (pd_var 5 rfl) pad_nil) ⟨x, rfl, h1 x hx, rfl⟩) rfl, rfl⟩) (small_size (by omega))) pad_nil))) rfl
  | never ss =>
    obtain ⟨h1, h2⟩ := ha
    have W := words_st h1 h2
    have ht := W.text
    refine pbd_asg (pd_partS (pd_var 0 rfl) pd_str ⟨(show S (tAns (.never ss)) = S ([110, 101, 118, 101, 114] ++ [32] ++ tListed (ss.map tStand)) from rfl), rfl, by decide, ?_⟩) (pgd_tup rfl (pgds_cons (pgd_name 1 sc_read_answer.nd) (pgds_cons (pgd_name 2 sc_read_answer.nd) (pgds_cons (pgd_name 3 sc_read_answer.nd) pgds_nil)))) ?_
    · simp only [List.length_append, List.length_cons, List.length_nil]
      omega
    refine b_no (ptd_cmp hu (pd_var 1 rfl) pd_str (.eq Ly.shp Ly.shp)) (by rw [eqv_str]; decide +kernel) ?_
    refine b_no (ptd_cmp hu (pd_var 1 rfl) pd_str (.eq Ly.shp Ly.shp)) (by rw [eqv_str]; decide +kernel) ?_
    refine b_ifT (ptd_cmp hu (pd_var 1 rfl) pd_str (.eq Ly.shp Ly.shp)) (by rw [eqv_str]; decide +kernel) ?_
    exact b_ret (pd_tup (ps := [_, _]) (pad_cons pd_str (pad_cons (pd_lcA [("one", 4)] ss (fun x => .str (S (tStand x))) dStand rfl sc_read_answer.nd (PID.eq (pid_list (pd_call h_words_in (hr.mono (by decide)) (pad_cons (pd_var 3 rfl) pad_nil) ⟨ss.map tStand, rfl, W.plain, W.free, by omega, rfl⟩)) (by rw [Words.strs])) (blkOk_by (N := ["text", "word", "blank", "rest", "one", "sign", "steps", "mark", "numbers", "other"]) (own := [("one", 4)]) (sc := defScope s_read_answer) (by decide +kernel)) (fun x hx => ⟨_, fun _ _ _ _ _ => (pgw_name 4 sc_read_answer.nd), fun _ _ _ _ _ => PED.eq (pd_call h_read_stand (hr.mono (by decide)) (pad_cons (pd_var 4 rfl) pad_nil) ⟨x, rfl, (h1 x hx).1, (h1 x hx).2.1, by have := (h1 x hx).2.2; omega, rfl⟩) rfl, rfl⟩) (small_size (by omega))) pad_nil))) rfl
  | row deed p ns =>
    obtain ⟨h1, h2, h3, h4⟩ := ha
    have W := words_step (deed := deed) h1 (by omega)
    have ht := W.text
    have W2 := words_num h3 h4
    have ht2 := W2.text
    have ea : tAns (.row deed p ns) = [114, 111, 119] ++ [32] ++ (tListed (p.map (tStep deed)) ++ ([59, 32] ++ tListed (ns.map tNum))) := by
      show [114, 111, 119, 32] ++ tListed (p.map (tStep deed)) ++ [59, 32] ++ tListed (ns.map tNum) = _
      simp only [List.append_assoc]
      rfl
    refine pbd_asg (pd_partS (pd_var 0 rfl) pd_str ⟨congrArg S ea, rfl, by decide, ?_⟩) (pgd_tup rfl (pgds_cons (pgd_name 1 sc_read_answer.nd) (pgds_cons (pgd_name 2 sc_read_answer.nd) (pgds_cons (pgd_name 3 sc_read_answer.nd) pgds_nil)))) ?_
    · simp only [List.length_append, List.length_cons, List.length_nil]
      omega
    refine b_no (ptd_cmp hu (pd_var 1 rfl) pd_str (.eq Ly.shp Ly.shp)) (by rw [eqv_str]; decide +kernel) ?_
    refine b_no (ptd_cmp hu (pd_var 1 rfl) pd_str (.eq Ly.shp Ly.shp)) (by rw [eqv_str]; decide +kernel) ?_
    refine b_no (ptd_cmp hu (pd_var 1 rfl) pd_str (.eq Ly.shp Ly.shp)) (by rw [eqv_str]; decide +kernel) ?_
    refine b_ifT (ptd_cmp hu (pd_var 1 rfl) pd_str (.eq Ly.shp Ly.shp)) (by rw [eqv_str]; decide +kernel) ?_
    refine pbd_asg (pd_part2 (pd_var 3 rfl) pd_str ⟨rfl, rfl, ?_, ?_⟩) (pgd_tup rfl (pgds_cons (pgd_name 6 sc_read_answer.nd) (pgds_cons (pgd_name 7 sc_read_answer.nd) (pgds_cons (pgd_name 8 sc_read_answer.nd) pgds_nil)))) ?_
    · intro q
      rcases tListed_mem q with h | h | h | h | ⟨v, hv, h⟩
      · omega
      · omega
      · omega
      · omega
      · obtain ⟨x, _, rfl⟩ := List.mem_map.mp hv
        have := tStep_mem h
        omega
    · simp only [List.length_append, List.length_cons, List.length_nil]
      omega
    exact b_ret (pd_tup (ps := [_, _, _]) (pad_cons pd_str (pad_cons (pd_call h_steps_in (hr.mono (by decide)) (pad_cons (pd_var 6 rfl) pad_nil) ⟨deed, p, rfl, h1, by omega, rfl⟩) (pad_cons (pd_lcA [("one", 4)] ns (fun x => .str (S (tNum x))) dNum rfl sc_read_answer.nd (PID.eq (pid_list (pd_call h_words_in (hr.mono (by decide)) (pad_cons (pd_var 8 rfl) pad_nil) ⟨ns.map tNum, rfl, W2.plain, W2.free, by omega, rfl⟩)) (by rw [Words.strs])) (blkOk_by (N := ["text", "word", "blank", "rest", "one", "sign", "steps", "mark", "numbers", "other"]) (own := [("one", 4)]) (sc := defScope s_read_answer) (by decide +kernel)) (fun x hx => ⟨_, fun _ _ _ _ _ => (pgw_name 4 sc_read_answer.nd), fun _ _ _ _ _ => PED.eq (pd_call h_numbered_in (hr.mono (by decide)) (pad_cons (pd_var 4 rfl) pad_nil) ⟨x, rfl, (h3 x hx).1, (h3 x hx).2, rfl⟩) rfl, rfl⟩) (small_size (by omega))) pad_nil)))) rfl
  | wheel z ms bars =>
    obtain ⟨h1, h2, h3⟩ := ha
    have hpl := tPart_len (partSm_of h1)
    have hL : (TL.joinL [32] (tPart (.wheel z ms) :: bars.map tBar)).length ≤ 310020 := ansW_len h1 h2 h3
    have hf : ∀ v ∈ tPart (.wheel z ms) :: bars.map tBar, 32 ∉ v := fun v hv q => by
      rcases List.mem_cons.mp hv with rfl | hv
      · have := tPart_mem q; omega
      · obtain ⟨b, _, rfl⟩ := List.mem_map.mp hv
        have := tBar_mem q; omega
    refine pbd_asg (pd_partS (pd_var 0 rfl) pd_str ⟨(show S (tAns (.wheel z ms bars)) = S ([119, 104, 101, 101, 108] ++ [32] ++ TL.joinL [32] (tPart (.wheel z ms) :: bars.map tBar)) from rfl), rfl, by decide, ?_⟩) (pgd_tup rfl (pgds_cons (pgd_name 1 sc_read_answer.nd) (pgds_cons (pgd_name 2 sc_read_answer.nd) (pgds_cons (pgd_name 3 sc_read_answer.nd) pgds_nil)))) ?_
    · rw [List.length_append, List.length_append]
      show 5 + 1 + _ ≤ _
      omega
    refine b_no (ptd_cmp hu (pd_var 1 rfl) pd_str (.eq Ly.shp Ly.shp)) (by rw [eqv_str]; decide +kernel) ?_
    refine b_no (ptd_cmp hu (pd_var 1 rfl) pd_str (.eq Ly.shp Ly.shp)) (by rw [eqv_str]; decide +kernel) ?_
    refine b_no (ptd_cmp hu (pd_var 1 rfl) pd_str (.eq Ly.shp Ly.shp)) (by rw [eqv_str]; decide +kernel) ?_
    refine b_no (ptd_cmp hu (pd_var 1 rfl) pd_str (.eq Ly.shp Ly.shp)) (by rw [eqv_str]; decide +kernel) ?_
    refine b_ifT (ptd_cmp hu (pd_var 1 rfl) pd_str (.eq Ly.shp Ly.shp)) (by rw [eqv_str]; decide +kernel) ?_
    exact b_ret (pd_call h_wheel_in (hr.mono (by decide)) (pad_cons (pd_splitS (pd_var 3 rfl) pd_str ⟨rfl, rfl, by decide, by simp, hf, by omega⟩) pad_nil) ⟨z, ms, bars, rfl, h1, h2, by omega, rfl⟩) rfl
  | none_ j k =>
    obtain ⟨h1, h2⟩ := ha
    have l1 := num_len h1
    have l2 := num_len h2
    have ea : tAns (.none_ j k) = [110, 111, 110, 101] ++ [32] ++ (num j ++ [32] ++ num k) := by
      show [110, 111, 110, 101, 32] ++ num j ++ [32] ++ num k = _
      simp only [List.append_assoc]
      rfl
    refine pbd_asg (pd_partS (pd_var 0 rfl) pd_str ⟨congrArg S ea, rfl, by decide, ?_⟩) (pgd_tup rfl (pgds_cons (pgd_name 1 sc_read_answer.nd) (pgds_cons (pgd_name 2 sc_read_answer.nd) (pgds_cons (pgd_name 3 sc_read_answer.nd) pgds_nil)))) ?_
    · simp only [List.length_append, List.length_cons, List.length_nil]
      omega
    refine b_no (ptd_cmp hu (pd_var 1 rfl) pd_str (.eq Ly.shp Ly.shp)) (by rw [eqv_str]; decide +kernel) ?_
    refine b_no (ptd_cmp hu (pd_var 1 rfl) pd_str (.eq Ly.shp Ly.shp)) (by rw [eqv_str]; decide +kernel) ?_
    refine b_no (ptd_cmp hu (pd_var 1 rfl) pd_str (.eq Ly.shp Ly.shp)) (by rw [eqv_str]; decide +kernel) ?_
    refine b_no (ptd_cmp hu (pd_var 1 rfl) pd_str (.eq Ly.shp Ly.shp)) (by rw [eqv_str]; decide +kernel) ?_
    refine b_no (ptd_cmp hu (pd_var 1 rfl) pd_str (.eq Ly.shp Ly.shp)) (by rw [eqv_str]; decide +kernel) ?_
    have ej : TL.joinL [32] [num j, num k] = num j ++ [32] ++ num k := by simp [TL.joinL]
    have hf : ∀ v ∈ [num j, num k], 32 ∉ v := fun v hv q => by
      simp only [List.mem_cons, List.not_mem_nil, or_false] at hv
      rcases hv with rfl | rfl
      · have := num_digit q; omega
      · have := num_digit q; omega
    have hcount : Txt.count (S (num j ++ [32] ++ num k)) (S [32]) = 1 := by
      have h := count_split (x := S (num j ++ [32] ++ num k)) (c := 32) (by decide) (by rw [S_len, List.length_append, List.length_append, List.length_singleton]; omega)
      rw [split_S (by simp) (by simp), ← ej, spl_join (by simp) hf] at h
      rw [← ej]
      have h' : Txt.count (S (TL.joinL [32] [num j, num k])) (S [32]) + 1 = 2 := h
      omega
    refine pbd_drop (pd_call h_sure (hr.mono (by decide)) (pad_cons (pd_and (pd_cmp hu (pd_var 1 rfl) pd_str (.eq Ly.shp Ly.shp)) fun _ => (pd_one (pd_cmp hu (pd_countS (pd_var 3 rfl) pd_str) pd_int (.eq Ly.shp Ly.shp)))) pad_nil) ⟨?_, rfl⟩) ?_
    · show [D (PyData.bool (PyData.eqv (.str (S [110, 111, 110, 101])) (.str "none") && PyData.eqv (.int (Txt.count (S (num j ++ [32] ++ num k)) (S [32]))) (.int 1)))] = [D (PyData.bool true)]
      rw [hcount, eqv_int, show PyData.eqv (.str (S [110, 111, 110, 101])) (.str "none") = true by rw [eqv_str]; decide +kernel]
      rfl
    refine pbd_asg (pd_splitS (pd_var 3 rfl) pd_str ⟨(congrArg S ej.symm : S (num j ++ [32] ++ num k) = S (TL.joinL [32] [num j, num k])), rfl, by decide, by simp, hf, ?_⟩) (pgd_lst rfl (pgds_cons (pgd_name 4 sc_read_answer.nd) (pgds_cons (pgd_name 9 sc_read_answer.nd) pgds_nil))) ?_
    · rw [ej]
      simp only [List.length_append, List.length_cons, List.length_nil]
      omega
    exact b_ret (pd_tup (ps := [_, _, _]) (pad_cons pd_str (pad_cons (pd_call h_count_in (hr.mono (by decide)) (pad_cons (pd_var 4 rfl) pad_nil) ⟨j, rfl, h1, rfl⟩) (pad_cons (pd_call h_count_in (hr.mono (by decide)) (pad_cons (pd_var 9 rfl) pad_nil) ⟨k, rfl, h2, rfl⟩) pad_nil)))) rfl
end
end Ct

-- DL15
set_option Elab.async false
set_option linter.all false
set_option maxRecDepth 100000
set_option maxHeartbeats 1000000
/-! DL15: a list of one's own handed to a def that changes it. -/
namespace Ct
open PySem PySem.Spec L2
/-- a heap without one address -/
def rem (H : Hp) (p : Addr) : Hp := fun b => if b = p then none else H b
theorem rem_same {H : Hp} {p : Addr} : Same (rem H p) H := fun b o h => by
  unfold rem at h
  split at h
  · cases h
  · exact h
theorem rem_at {H : Hp} {p b : Addr} {o : HO} (h : H b = some o) (hb : b ≠ p) : rem H p b = some o := by
  unfold rem
  rw [if_neg hb]
  exact h
/-- a slot's form for a list of one's own -/
structure OwnL (P : Program) (w : World) (mk : List PyData → Sl) : Prop where
  at_ : ∀ (G H : Hp) (o : Option V) (ds : List PyData), SlOk P w G H (mk ds) o → ∃ p xs, o = some (.ref p) ∧ H p = some (.lst xs) ∧ DtAll G xs ds ∧ ownAt (mk ds) o = some p ∧
    ∀ (G' H' : Hp) (xs' : List V) (ds' : List PyData), H' p = some (.lst xs') → DtAll G' xs' ds' → SlOk P w G' H' (mk ds') o ∧ ownAt (mk ds') o = some p
section
variable {P : Program} {w : World} {G G' G1 H H' H1 G0 H0 : Hp} {δ : List Sl} {σ : St}
theorem own_lst : OwnL P w .lst := ⟨fun G H o ds h => by
  cases o with
  | none => exact False.elim h
  | some v =>
    obtain ⟨p, xs, rfl, hp, ha⟩ := h
    exact ⟨p, xs, rfl, hp, ha, rfl, fun G' H' xs' ds' h1 h2 => ⟨⟨p, xs', rfl, h1, h2⟩, rfl⟩⟩⟩
theorem own_lsa {p : Addr} : OwnL P w (.lsa p) := ⟨fun G H o ds h => by
  cases o with
  | none => exact False.elim h
  | some v =>
    obtain ⟨xs, rfl, hp, ha⟩ := h
    exact ⟨p, xs, rfl, hp, ha, rfl, fun G' H' xs' ds' h1 h2 => ⟨⟨xs', rfl, h1, h2⟩, rfl⟩⟩⟩
theorem StOk.ownAtL {mk : List PyData → Sl} (O : OwnL P w mk) {i : Nat} {ds : List PyData} (S : StOk P w G0 H0 δ σ G H) (hi : δ[i]? = some (mk ds)) : ∃ p xs, σ[i]? = some (some (.ref p)) ∧ H p = some (.lst xs) ∧ DtAll G xs ds ∧ ownAt (mk ds) (σ[i]?.join) = some p ∧
    ∀ (G' H' : Hp) (xs' : List V) (ds' : List PyData), H' p = some (.lst xs') → DtAll G' xs' ds' → SlOk P w G' H' (mk ds') (some (.ref p)) ∧ ownAt (mk ds') (some (.ref p)) = some p := by
  have h := S.sl i _ hi
  obtain ⟨p, xs, e, hp, ha, ho, k⟩ := O.at_ _ _ _ _ h
  cases e2 : σ[i]? with
  | none => rw [e2] at e; cases e
  | some o =>
    rw [e2] at e ho k
    cases o with
    | none => cases e
    | some v =>
      cases e
      exact ⟨p, xs, rfl, hp, ha, ho, k⟩
/-- a part has changed one own list and nothing else -/
theorem StOk.mutBy {mk : List PyData → Sl} {i : Nat} {p : Addr} {ds ds1 : List PyData} (S : StOk P w G0 H0 δ σ G H) (hi : δ[i]? = some (mk ds)) (hp : ownAt (mk ds) (σ[i]?.join) = some p) (hu : ∃ u, H p = some u)
    (ok : SlOk P w G' H' (mk ds1) (some (.ref p))) (ho : ownAt (mk ds1) (some (.ref p)) = some p) (gg : Same G G') (hh : Same (rem H p) H') (gh : Same G' H') (sep : ∀ b o, H b = some o → G b = none → G' b = none) :
    StOk P w G0 H0 (δ.set i (mk ds1)) σ G' H' := by
  obtain ⟨n0, n1⟩ := S.own i _ p hi hp
  have hv := ownAt_some hp
  have hlt : i < δ.length := (List.getElem?_eq_some_iff.mp hi).1
  refine ⟨same_trans S.gg gg, fun b u e => hh b u (rem_at (S.hh b u e) (ne_of_none e n0)), gh, fun b o e n => sep b o (S.hh b o e) (S.sep b o e n), by rw [List.length_set]; exact S.len, fun j u e => ?_, fun j u q e z => ?_, fun j l u u' q hjl e1 e2 z => ?_⟩
  · by_cases hj : i = j
    · subst hj
      rw [List.getElem?_set_self hlt] at e; cases e
      rw [hv]; exact ok
    · rw [List.getElem?_set_ne hj] at e
      exact (S.sl j u e).up gg fun q v hq hu => hh q v (rem_at hu fun z => S.dis i j _ u p hj hi e hp (by rw [hq, z]))
  · by_cases hj : i = j
    · subst hj
      rw [List.getElem?_set_self hlt] at e; cases e
      rw [hv, ho] at z; cases z
      obtain ⟨u, hu⟩ := hu
      exact ⟨n0, sep p u hu n1⟩
    · rw [List.getElem?_set_ne hj] at e
      obtain ⟨m0, m1⟩ := S.own j u q e z
      obtain ⟨v, hv⟩ := (S.sl j u e).there z
      exact ⟨m0, sep q v hv m1⟩
  · by_cases hj : i = j
    · subst hj
      rw [List.getElem?_set_self hlt] at e1; cases e1
      rw [hv, ho] at z; cases z
      rw [List.getElem?_set_ne hjl] at e2
      exact S.dis i l _ u' p hjl hi e2 hp
    · rw [List.getElem?_set_ne hj] at e1
      by_cases hl : i = l
      · subst hl
        rw [List.getElem?_set_self hlt] at e2; cases e2
        rw [hv, ho]
        intro q'
        cases q'
        exact S.dis i j _ u p hj hi e1 hp z
      · rw [List.getElem?_set_ne hl] at e2
        exact S.dis j l u u' q hjl e1 e2 z
end
/-- an own list first, then arguments told by data -/
def PSpL (pre : List PyData → List Sl → PyData → List PyData → Prop) : Sp := fun vs H Q _ => ∃ G p xs vs' ds0 ds r ds1, vs = .ref p :: vs' ∧ pre ds0 ds r ds1 ∧ Same G H ∧ G p = none ∧ H p = some (.lst xs) ∧ DtAll G xs ds0 ∧ VsOk G vs' ds ∧
  ∀ v G' H' xs', Same G G' → Same (rem H p) H' → Same G' H' → (∀ b o, H b = some o → G b = none → G' b = none) → H' p = some (.lst xs') → DtAll G' xs' ds1 → Dt G' v r → Q v H'
structure HasL (P : Program) (w : World) (K : PySem.W.Frag) (mg : Str → Option Value) (base : Heap) (n : Nat) (x : Str) (ps : List Str) (pre : List PyData → List Sl → PyData → List PyData → Prop) (f : Addr) : Prop where
  at_ : mg x = some (.ref f)
  kp : PySem.W.keepIn K (.ref f) = true
  ex : ∃ fd, Binds K fd ps [] ∧ FnOk P w K mg base CX0 n f fd ps (PSpL pre)
section
variable {X : Cx} {δ δ1 : List Sl} {pos : Pos} {r : PyData} {es : List Expr} {ds : List Sl} {p p1 : Pos} {ds0 ds1 : List PyData}
theorem pd_callO {mk : List PyData → Sl} (O : OwnL X.prog X.w mk) (i : Nat) {x y : Str} {ps : List Str} {pre : List PyData → List Sl → PyData → List PyData → Prop} {n : Nat} {f : Addr} (F : HasL X.prog X.w X.K X.mg X.base n x ps pre f) (hr : Room n X.A)
    (hd : δ[i]? = some (mk ds0)) (ha : PAD X δ es ds δ1) (hd1 : δ1[i]? = some (mk ds0)) (hp : pre ds0 ds r ds1) (hg : Gl X x := by rfl)
    (hN : X.N[i]? = some y := by rfl) (hv : Vis X.env.scope y := by first | exact Or.inl rfl | exact Or.inr (Or.inl rfl) | exact Or.inr (Or.inr rfl)) (hdb2 : (y == ("__debug__" : Str)) = false := by decide) (hcd : (y == ("__classdict__" : Str)) = false := by decide)
    (hdb : (x == ("__debug__" : Str)) = false := by decide) (he : starEach (.Name y p1 :: es) X.env = (false, eval (.Name y p1) X.env) :: starEach es X.env := by rfl) (hpl : (backTo pos (starEach es X.env)).any (·.1) = false := by rfl) :
    PED X δ (.Call (.Name x p) (.Name y p1 :: es) [] pos) (D r) (δ1.set i (mk ds1)) := by
  obtain ⟨fd, hb, F'⟩ := F.ex
  refine (pe_call F' hr hg F.at_ F.kp hb .nil pass0 (pa_cons (pv i hN hv hdb2 hcd) ha he) hdb he hpl).imp fun σ H Q ⟨G0, H0, G, S, q⟩ => ?_
  obtain ⟨l, xs, e1, hl, hal, _⟩ := S.ownAtL O hd
  refine ⟨.ref l, e1, G0, H0, G, S, fun vs G1 H1 g1 S1 rvs => ?_⟩
  obtain ⟨l', xs', e1', hl', ha', ho, hk⟩ := S1.ownAtL O hd1
  rw [e1] at e1'; cases e1'
  refine ⟨G1, l, xs', vs, ds0, ds, r, ds1, by rw [List.append_nil], hp, S1.gh, (S1.own i _ l hd1 ho).2, hl', ha', rvs, fun v G' H' xs2 gg hh gh sep hx hax rv => ?_⟩
  obtain ⟨k1, k2⟩ := hk G' H' xs2 ds1 hx hax
  exact q v G' H' (same_trans g1 gg) (S1.mutBy hd1 ho ⟨_, hl'⟩ k1 k2 gg hh gh sep) rv
/-- x[i] -/
theorem pd_ixL {mk : List PyData → Sl} (O : OwnL X.prog X.w mk) (s : Nat) {x : Str} {b : Expr} {ds : List PyData} {i : Int} (hd : δ[s]? = some (mk ds)) (hb : PED X δ b (D (.int i)) δ) (h : atI ds i = some r) (hN : X.N[s]? = some x := by rfl)
    (hv : Vis X.env.scope x := by first | exact Or.inl rfl | exact Or.inr (Or.inl rfl) | exact Or.inr (Or.inr rfl)) (hs : PlainIx b := by intro _ _; rfl)
    (hdb : (x == ("__debug__" : Str)) = false := by decide) (hcd : (x == ("__classdict__" : Str)) = false := by decide) : PED X δ (.Subscript (.Name x p1) b pos) (D r) δ := by
  refine (pe_ix ix_list (pv s hN hv hdb hcd) hb hs).imp fun σ H Q ⟨G0, H0, G, S, q⟩ => ?_
  obtain ⟨p, xs, e1, hp, ha, _⟩ := S.ownAtL O hd
  refine ⟨.ref p, e1, G0, H0, G, S, fun v G' H' g' S' rv => ?_⟩
  obtain ⟨p', xs', e1', hp', ha', _⟩ := S'.ownAtL O hd
  rw [e1] at e1'; cases e1'
  obtain ⟨v', e2, e3⟩ := atI_dt ha' h
  exact ⟨p, xs', i, v', rfl, dt_int rv, .of hp', e2, q v' G' H' g' S' e3⟩
/-- x[b] = .. -/
theorem pgd_setL {mk : List PyData → Sl} (O : OwnL X.prog X.w mk) (i : Nat) {x : Str} {b : Expr} {d : PyData} {ds : List PyData} {k : Int} {j : Nat} (hd : δ[i]? = some (mk ds)) (hb : PED X δ b (D (.int k)) δ) (hj : ixN ds.length k = some j)
    (hN : X.N[i]? = some x := by rfl) (hv : Vis X.env.scope x := by first | exact Or.inl rfl | exact Or.inr (Or.inl rfl) | exact Or.inr (Or.inr rfl)) (hdb : (x == ("__debug__" : Str)) = false := by decide) (hcd : (x == ("__classdict__" : Str)) = false := by decide)
    (ha : ∀ v, assign (.Subscript (.Name x p1) b pos) X.env v = (do
      let ov ← holding [v] (eval (.Name x p1) X.env)
      let iv ← holding [v, ov] (eval b X.env)
      standAt pos
      holding [v, ov, iv] (setItem ov iv v)
      release [v, ov, iv] []) := by intro _; rfl) : PGD X δ (.Subscript (.Name x p1) b pos) d (δ.set i (mk (ds.set j d))) :=
  (pg_sub (pv i hN hv hdb hcd) hb set_list ha).imp fun v σ H Q ⟨G0, H0, G, S, rv, q⟩ => by
    obtain ⟨l, xs, e1, hl, hal, _⟩ := S.ownAtL O hd
    refine ⟨.ref l, e1, G0, H0, G, S, fun iv G1 H1 g1 S1 ri => ?_⟩
    obtain ⟨l', xs', e1', hl', ha', ho, hk⟩ := S1.ownAtL O hd
    rw [e1] at e1'; cases e1'
    have hs := ha'.setAt (Dt.up rv g1) j
    obtain ⟨k1, k2⟩ := hk G1 (upd H1 l (.lst (xs'.set j v))) _ _ upd_same hs
    exact ⟨l, xs', k, j, rfl, dt_int ri, hl', by rw [ha'.length]; exact hj, q _ G1 _ g1 (S1.mut hd ho k1 k2)⟩
end
theorem wk_head {δ : List Sl} {s : Sl} (h : δ[0]? = some s) : Wk δ [s] := fun i t e => by
  cases i with
  | zero => cases e; exact .inr h
  | succ i => simp at e
/-- where such a def starts -/
theorem stok_startL {P : Program} {w : World} {G H : Hp} {N : List Str} {ds : List Sl} {vs xs : List V} {p : Addr} {ds0 : List PyData} (g : Same G H) (hp : G p = none) (hl : H p = some (.lst xs)) (ha : DtAll G xs ds0) (r : VsOk G vs ds) (hn : vs.length + 1 ≤ N.length) :
    StOk P w G (rem H p) (st0 N (.lsa p ds0 :: ds)) (start N (.ref p :: vs)) G H := by
  have el : vs.length = ds.length := Paired.length r
  have at_ : ∀ (i : Nat) (s : Sl), (st0 N (.lsa p ds0 :: ds))[i]? = some s → (i = 0 ∧ s = .lsa p ds0) ∨ s = .any ∨ ∃ v, (start N (.ref p :: vs))[i]? = some (some v) ∧ VOk G v s := fun i s e => by
    cases i with
    | zero => cases e; exact .inl ⟨rfl, rfl⟩
    | succ i =>
      right
      unfold st0 at e
      rw [List.cons_append, List.getElem?_cons_succ] at e
      by_cases hi : i < ds.length
      · rw [List.getElem?_append_left hi] at e
        have : ∀ {vs : List V} {ds : List Sl} {i : Nat}, VsOk G vs ds → ds[i]? = some s → ∃ v, vs[i]? = some v ∧ VOk G v s := by
          intro vs
          induction vs with
          | nil => intro ds i r e; cases r; simp at e
          | cons v vs ih =>
            intro ds i r e
            cases r with
            | cons r1 r2 =>
              cases i with
              | zero => cases e; exact ⟨v, rfl, r1⟩
              | succ i => exact ih (i := i) r2 (by simpa using e)
        obtain ⟨v, e1, e2⟩ := this r e
        refine .inr ⟨v, ?_, e2⟩
        unfold L2.start
        rw [List.map_cons, List.cons_append, List.getElem?_cons_succ, List.getElem?_append_left (by rw [List.length_map]; omega), List.getElem?_map, e1]; rfl
      · rw [List.getElem?_append_right (by omega), List.getElem?_replicate] at e
        split at e
        · cases e; exact .inl rfl
        · cases e
  have h0 : (start N (.ref p :: vs))[0]?.join = some (.ref p) := rfl
  refine ⟨same_refl _, rem_same, g, fun _ _ _ n => n, ?_, fun i s e => ?_, fun i s q e z => ?_, fun i j s t q hij e1 e2 z => ?_⟩
  · unfold st0 L2.start
    simp only [List.length_append, List.length_replicate, List.length_map, List.length_cons]; omega
  · rcases at_ i s e with ⟨rfl, rfl⟩ | rfl | ⟨v, e1, r1⟩
    · rw [h0]; exact ⟨xs, rfl, hl, ha⟩
    · cases (start N (.ref p :: vs))[i]?.join <;> trivial
    · rw [e1]
      cases s with
      | dat d => exact r1
      | fn f => exact r1
      | _ => exact False.elim r1
  · rcases at_ i s e with ⟨rfl, rfl⟩ | rfl | ⟨v, e1, r1⟩
    · rw [h0] at z; cases z
      exact ⟨by unfold rem; rw [if_pos rfl], hp⟩
    · cases z
    · cases s with
      | dat d => cases z
      | fn f => cases z
      | _ => exact False.elim r1
  · rcases at_ i s e1 with ⟨rfl, rfl⟩ | rfl | ⟨v, e3, r1⟩
    · rcases at_ j t e2 with ⟨rfl, rfl⟩ | rfl | ⟨v, e3, r1⟩
      · exact absurd rfl hij
      · exact fun q => by cases q
      · cases t with
        | dat d => exact fun q => by cases q
        | fn f => exact fun q => by cases q
        | _ => exact False.elim r1
    · cases z
    · cases s with
      | dat d => cases z
      | fn f => cases z
      | _ => exact False.elim r1
section
variable {P : Program} {w : World} {K : PySem.W.Frag} {mg : Str → Option Value} {base : Heap}
theorem has_ofL {x name : Str} {n : Nat} {st : Stmt} {N ps : List Str} {pre : List PyData → List Sl → PyData → List PyData → Prop} {f : Addr} {fd : FuncData} (F : FnP K name st f fd) (hm : mg x = some (.ref f)) (S : FnScope N ps (defScope st))
    (len : ∀ ds0 ds r ds1, pre ds0 ds r ds1 → ds.length + 1 = ps.length)
    (hb : ∀ (kV doc pm : Value) (an : Option Addr) (cdv ct : Value) (us : List Value), us.length = ps.length → bindArgs (PySem.W.fnOf name name (defArgs st) (defBody st) (defScope st) .none kV doc pm an cdv ct) ⟨us, []⟩ = pure (ps.zip us))
    (body : ∀ (cdv : Value) (A : Around) (outer : List Env) (s : Shared) (H : Hp) (E : XK) (q : Addr) (ds0 : List PyData) (ds : List Sl) (r : PyData) (ds1 : List PyData), Room n (A.deeper (PyProof.Rows.envOfC name (defScope st) s.heap.objs.size f cdv)) → pre ds0 ds r ds1 →
      PBD (Xf P w K mg base N name st f cdv A outer s H E) (st0 N (.lsa q ds0 :: ds)) [defBody st] (.rt r [.lsa q ds1])) : HasL P w K mg base (n + 1) x ps pre f := by
  refine ⟨hm, F.kp, fd, ?_, ?_⟩
  · exact F.bindsN hb
  · refine F.ok S (fun vs H Q E h => ?_) fun cdv A outer s H vs Q E hr h => ?_
    · obtain ⟨G, p, xs, vs', ds0, ds, r, ds1, rfl, hp, g, hg, hl, ha, rv, q⟩ := h
      rw [List.length_cons, Paired.length rv]; exact len _ _ _ _ hp
    · obtain ⟨G, p, xs, vs', ds0, ds, r, ds1, rfl, hp, g, hg, hl, ha, rv, q⟩ := h
      have hn : vs'.length + 1 ≤ N.length := by
        rw [Paired.length rv, len _ _ _ _ hp]
        have := congrArg List.length S.pre
        rw [List.length_take] at this; omega
      refine ⟨_, PSs.nox (body cdv A outer s H E p ds0 ds r ds1 hr hp).pss, G, rem H p, G, stok_startL g hg hl ha rv hn, fun v σ G' H' g' S' r' => ?_⟩
      obtain ⟨xs', e1, hx, hax⟩ : ∃ xs', σ[0]?.join = some (.ref p) ∧ H' p = some (.lst xs') ∧ DtAll G' xs' ds1 := by
        have h := S'.sl 0 _ rfl
        cases e : σ[0]?.join with
        | none => rw [e] at h; exact False.elim h
        | some v =>
          rw [e] at h
          obtain ⟨xs', rfl, h1, h2⟩ := h
          exact ⟨xs', rfl, h1, h2⟩
      have hown := (S'.own 0 (.lsa p ds1) p rfl (by rw [e1]; rfl)).2
      refine q v G' H' xs' g' S'.hh S'.gh (fun b o e nb => ?_) hx hax r'
      by_cases hb : b = p
      · subst hb; exact hown
      · exact S'.sep b o (rem_at e hb) nb
end
end Ct

-- DL16
set_option Elab.async false
set_option linter.all false
set_option maxRecDepth 100000
set_option maxHeartbeats 1000000
/-! DL16: powers; a def that answers a new list, which is its caller's own from then on. -/
namespace Ct
open PySem PySem.Spec L2
def CPowX (i j : Int) : Prop := 0 ≤ j ∧ (Builtin.Int.intBits i : Int) * j ≤ 2 ^ 27
section
variable {X : Cx} {e a b c : Expr} {δ δ1 δ2 : List Sl} {pos p : Pos} {es : List Expr} {ds : List Sl} {ds1 : List PyData} {rest : List Stmt} {bs : List (List Stmt)} {r1 : Bool}
theorem op_powX : OpR X (binaryOp .Pow) (rI CPowX fun i j => .int (i ^ j.toNat)) := opI fun _ _ _ _ _ _ _ hc q => PyProof.Rows.pow_int hc.1 hc.2 q
theorem pd_pow {i j : Int} (ha : PED X δ a (D (.int i)) δ1) (hb : PED X δ1 b (D (.int j)) δ2) (h : CPowX i j) : PED X δ (.BinOp a .Pow b pos) (D (.int (i ^ j.toNat))) δ2 :=
  (pe_op op_powX ha hb).imp fun σ H Q h' => tD_op (dop_I h) h'
/-- blocks that end by a new list -/
def tDSN (P : Program) (w : World) (δ : List Sl) (ds1 : List PyData) : TS := fun E σ H => ∃ G0 H0 G, StOk P w G0 H0 δ σ G H ∧ ∀ p xs σ' G' H', Same G G' → StOk P w G0 H0 [] σ' G' H' → H' p = none → DtAll G' xs ds1 → E.rt (.ref p) (upd H' p (.lst xs))
abbrev PBN (X : Cx) (δ : List Sl) (bs : List (List Stmt)) (ds1 : List PyData) : Prop := PB X bs (tDSN X.prog X.w δ ds1)
theorem pbn_ret {k} (h : PAD X δ es (ds1.map D) δ1) (hz : ds1.length ≤ sizeLine := by exact Nat.le_of_ble_eq_true rfl) : PBN X δ ((.Return (some (.List es k)) pos :: rest) :: bs) ds1 :=
  (pb_cons (ps_ret (pn_lst h hz))).imp fun E σ H ⟨G0, H0, G, S, q⟩ => ⟨G0, H0, G, S, fun p xs G' H' g S' hp ha => q p xs σ G' H' g (S'.weak Wk.nil (Nat.zero_le _)) hp ha⟩
theorem pbn_ifT {x y : List Stmt} (hc : PTD X δ c r1 δ1) (e1 : r1 = true) (h : PBN X δ1 (x :: rest :: bs) ds1) : PBN X δ ((.If c x y pos :: rest) :: bs) ds1 := by
  subst e1
  refine ⟨fun pins s σ H E I ⟨G0, H0, G, S, q⟩ => ?_⟩
  refine wpAny_execs_cons (wpAny_If (thn (hc.run pins s σ H (fun k H1 => k = true ∧ ∃ G', Same G G' ∧ StOk X.prog X.w G0 H0 δ1 σ G' H1) I ⟨G0, H0, G, S, fun G' H' g S' => ⟨rfl, G', g, S'⟩⟩) fun d s1 ⟨H1, I1, ed, G', g, S'⟩ => ?_))
  subst ed
  exact thn (h.run pins s1 σ H1 E I1 ⟨G0, H0, G', S', fun p xs σ2 G2 H2 g2 => q p xs σ2 G2 H2 (same_trans g g2)⟩) fun f s2 z => by
    cases f with
    | next => exact z
    | ret u => exact z
    | brk => exact z
    | cont => exact z
theorem pbn_no {x : List Stmt} (hc : PTD X δ c r1 δ1) (e1 : r1 = false) (h : PBN X δ1 (rest :: bs) ds1) : PBN X δ ((.If c x [] pos :: rest) :: bs) ds1 := by
  subst e1
  refine ⟨fun pins s σ H E I ⟨G0, H0, G, S, q⟩ => ?_⟩
  refine wpAny_execs_cons (wpAny_If (thn (hc.run pins s σ H (fun k H1 => k = false ∧ ∃ G', Same G G' ∧ StOk X.prog X.w G0 H0 δ1 σ G' H1) I ⟨G0, H0, G, S, fun G' H' g S' => ⟨rfl, G', g, S'⟩⟩) fun d s1 ⟨H1, I1, ed, G', g, S'⟩ => ?_))
  subst ed
  exact wpAny_execs_nil (h.run pins s1 σ H1 E I1 ⟨G0, H0, G', S', fun p xs σ2 G2 H2 g2 => q p xs σ2 G2 H2 (same_trans g g2)⟩)
end
/-- arguments told by data, a new list -/
def PSpN (pre : List Sl → List PyData → Prop) : Sp := fun vs H Q _ => ∃ G ds ds1, pre ds ds1 ∧ Same G H ∧ VsOk G vs ds ∧ ∀ p xs G' H', Ext G H G' H' → H' p = none → DtAll G' xs ds1 → Q (.ref p) (upd H' p (.lst xs))
structure HasN (P : Program) (w : World) (K : PySem.W.Frag) (mg : Str → Option Value) (base : Heap) (n : Nat) (x : Str) (ps : List Str) (pre : List Sl → List PyData → Prop) (f : Addr) : Prop where
  at_ : mg x = some (.ref f)
  kp : PySem.W.keepIn K (.ref f) = true
  ex : ∃ fd, Binds K fd ps [] ∧ FnOk P w K mg base CX0 n f fd ps (PSpN pre)
section
variable {X : Cx} {a : Expr} {δ δ1 : List Sl} {pos p : Pos} {es : List Expr} {ds : List Sl} {ds1 : List PyData}
theorem pn_call {x : Str} {ps : List Str} {pre : List Sl → List PyData → Prop} {n : Nat} {f : Addr} (F : HasN X.prog X.w X.K X.mg X.base n x ps pre f) (hr : Room n X.A) (ha : PAD X δ (a :: es) ds δ1) (hp : pre ds ds1) (hg : Gl X x := by rfl)
    (hdb : (x == ("__debug__" : Str)) = false := by decide) (he : starEach (a :: es) X.env = (false, eval a X.env) :: starEach es X.env := by rfl) (hpl : (backTo pos (starEach es X.env)).any (·.1) = false := by rfl) :
    PND X δ (.Call (.Name x p) (a :: es) [] pos) ds1 δ1 := by
  obtain ⟨fd, hb, F'⟩ := F.ex
  refine (pe_call F' hr hg F.at_ F.kp hb .nil pass0 ha hdb he hpl).imp fun σ H Q ⟨G0, H0, G, S, q⟩ => ⟨G0, H0, G, S, fun vs G1 H1 g1 S1 rvs => ?_⟩
  refine ⟨G1, ds, ds1, hp, S1.gh, by rw [List.append_nil]; exact rvs, fun l xs G' H' x hl hx => q l xs G' H' (same_trans g1 x.gg) (S1.ext x) hl hx⟩
end
section
variable {P : Program} {w : World} {K : PySem.W.Frag} {mg : Str → Option Value} {base : Heap}
theorem has_ofN {x name : Str} {n : Nat} {st : Stmt} {N ps : List Str} {pre : List Sl → List PyData → Prop} {f : Addr} {fd : FuncData} (F : FnP K name st f fd) (hm : mg x = some (.ref f)) (S : FnScope N ps (defScope st))
    (len : ∀ ds ds1, pre ds ds1 → ds.length = ps.length)
    (hb : ∀ (kV doc pm : Value) (an : Option Addr) (cdv ct : Value) (us : List Value), us.length = ps.length → bindArgs (PySem.W.fnOf name name (defArgs st) (defBody st) (defScope st) .none kV doc pm an cdv ct) ⟨us, []⟩ = pure (ps.zip us))
    (body : ∀ (cdv : Value) (A : Around) (outer : List Env) (s : Shared) (H : Hp) (E : XK) (ds : List Sl) (ds1 : List PyData), Room n (A.deeper (PyProof.Rows.envOfC name (defScope st) s.heap.objs.size f cdv)) → pre ds ds1 →
      PBN (Xf P w K mg base N name st f cdv A outer s H E) (st0 N ds) [defBody st] ds1) : HasN P w K mg base (n + 1) x ps pre f := by
  refine ⟨hm, F.kp, fd, ?_, ?_⟩
  · exact F.bindsN hb
  · refine F.ok S (fun vs H Q E h => ?_) fun cdv A outer s H vs Q E hr h => ?_
    · obtain ⟨G, ds, ds1, hp, g, rv, q⟩ := h
      rw [Paired.length rv]; exact len ds ds1 hp
    · obtain ⟨G, ds, ds1, hp, g, rv, q⟩ := h
      have hl : vs.length ≤ N.length := by
        rw [Paired.length rv, len ds ds1 hp]
        have := congrArg List.length S.pre
        rw [List.length_take] at this; omega
      exact ⟨_, PSs.nox (body cdv A outer s H E ds ds1 hr hp).pss, G, H, G, stok_start g rv hl, fun p xs σ G' H' g' S' hp' ha => q p xs G' H' S'.leave hp' ha⟩
end
end Ct

-- DL17
set_option Elab.async false
set_option linter.all false
set_option maxRecDepth 100000
set_option maxHeartbeats 1000000
/-! DL17: a comprehension whose test changes the state. -/
namespace Ct
open PySem PySem.Spec L2
/-- what a test that carries a state keeps -/
def keepF {α β : Type} (step : α → β → Bool × β) : List α → β → List α × β
  | [], b => ([], b)
  | x :: xs, b => (if (step x b).1 = true then x :: (keepF step xs (step x b).2).1 else (keepF step xs (step x b).2).1, (keepF step xs (step x b).2).2)
theorem keepF_app {α β : Type} {step : α → β → Bool × β} : ∀ (xs ys : List α) (b : β), keepF step (xs ++ ys) b = ((keepF step xs b).1 ++ (keepF step ys (keepF step xs b).2).1, (keepF step ys (keepF step xs b).2).2)
  | [], ys, b => rfl
  | x :: xs, ys, b => by
    rw [List.cons_append, keepF, keepF_app xs ys, keepF]
    split <;> rfl
section
variable {X : Cx} {e tg elt iter : Expr} {ifs : List Expr} {δ δ1 : List Sl} {pos : Pos} {scope : Scope}
theorem pd_lcW {α β : Type} (own : List (Str × Nat)) (xs : List α) (g f : α → PyData) (step : α → β → Bool × β) (mk : β → List Sl) (b0 : β) (I : Nat → β → Prop) (hc : X.calm = true) (hN : X.N.Nodup) (hi : PID X δ tg iter (xs.map g) δ1) (ok : BlkOk X.N X.env.scope scope own)
    (h1 : wipeD δ1 (own.map (·.2)) = mk b0) (h0 : I 0 b0)
    (turn : ∀ (i : Nat) (x : α) (b : β), xs[i]? = some x → I i b → I (i + 1) (step x b).2 ∧ ∃ δb δc, (∀ s H C cl fp, PG (Bk X scope s H C cl fp) tg (tDW X.prog X.w (own.map (·.2)) (mk b) (g x) δb)) ∧
      (∀ s H C cl fp, PTsD (Bk X scope s H C cl fp) δb ifs (step x b).1 δc) ∧ (∀ s H C cl fp, PED (Bk X scope s H C cl fp) δc elt (D (f x)) δc) ∧ wipeD δc (own.map (·.2)) = mk (step x b).2)
    (hz : xs.length < sizeLine) (hw : ∀ b, wipeD (mk b) (own.map (·.2)) = mk b) (hs : ∀ x, foldedSetIterable iter X.env x = pure x := by intro _; rfl) :
    PED X δ (.ListComp elt [⟨tg, iter, ifs, 0⟩] scope pos) (D (.list ((keepF step xs b0).1.map f))) (mk (keepF step xs b0).2) := by
  refine pd_lc own hc hN hi ok (fun i δa acc => I i (keepF step (xs.take i) b0).2 ∧ δa = mk (keepF step (xs.take i) b0).2 ∧ acc = (keepF step (xs.take i) b0).1.map f) ⟨by rw [List.take_zero]; exact h0, by rw [List.take_zero]; exact h1, by rw [List.take_zero]; rfl⟩ (fun i d δa acc hd ⟨e0, e1, e2⟩ => ?_) (fun δa acc ⟨e0, e1, e2⟩ => ?_) (by rw [List.length_map]; exact hz) hs
  · subst e1
    subst e2
    rw [List.getElem?_map] at hd
    obtain ⟨x, hx, rfl⟩ := Option.map_eq_some_iff.mp hd
    obtain ⟨hI, δb, δc, hg, ht, he, hwc⟩ := turn i x _ hx e0
    have et : xs.take (i + 1) = xs.take i ++ [x] := by rw [List.take_add_one, hx]; rfl
    have ek : keepF step (xs.take (i + 1)) b0 = ((keepF step (xs.take i) b0).1 ++ (if (step x (keepF step (xs.take i) b0).2).1 = true then [x] else []), (step x (keepF step (xs.take i) b0).2).2) := by
      rw [et, keepF_app]
      show (_ ++ (if _ then [x] else []), _) = _
      rfl
    refine ⟨mk (step x (keepF step (xs.take i) b0).2).2, (keepF step (xs.take (i + 1)) b0).1.map f, ⟨δb, _, δc, hg, ht, ?_⟩, by rw [ek]; exact hI, by rw [ek], rfl⟩
    cases hk : (step x (keepF step (xs.take i) b0).2).1 with
    | true => exact .inl ⟨rfl, f x, δc, he, by rw [ek, hk, if_pos rfl, List.map_append]; rfl, hwc.symm⟩
    | false => exact .inr ⟨rfl, by rw [ek, hk, if_neg Bool.false_ne_true, List.append_nil], hwc.symm⟩
  · subst e1
    subst e2
    rw [List.length_map, List.take_length]
    exact ⟨rfl, hw _⟩
end
end Ct

-- W24
set_option Elab.async false
set_option linter.all false
set_option maxRecDepth 100000
set_option maxHeartbeats 1000000
/-! W24: the law's draws (printed by gen2.py from W24.src). -/
namespace Ct
open PySem PySem.Spec L2
/-- what is left to draw: a number, a count, whether it is a long one -/
abbrev Dw := Int × Int × Bool
def dDw (d : Dw) : List PyData := [.int d.1, .int d.2.1, .bool d.2.2]
def drawsF (c : Int) : Dw := if c < 10 ^ 18 then (c, 0, false) else (c % ((10 ^ 60) ^ 50) ^ 3, 0, true)
def nextF (d : Dw) : Int × Dw :=
  if d.2.2 = true then (d.1 % 10 ^ 6, (d.1 / 10 ^ 6, d.2.1 + 1, d.2.2))
  else
    let a := (d.1 % 1000003 + (d.2.1 + 1) * (d.2.1 + 1) * 7919 + (d.2.1 + 1)) * 48271 % 2147483629
    let b := a * a % 2147483587
    (b * (b + 2) % 2147483579 / 7, (d.1, d.2.1 + 1, d.2.2))
def dwOk (m : Nat) (d : Dw) : Prop := 0 ≤ d.2.1 ∧ d.2.1 ≤ m
section
variable {P : Program} {w : World} {K : PySem.W.Frag} {mg : Str → Option Value} {base : Heap}
def p_law_draws (ds : List Sl) (ds1 : List PyData) : Prop := ∃ c : Int, ds = [D (.int c)] ∧ ds1 = dDw (drawsF c)
/-! _law_draws -/
theorem sc_law_draws : FnScope ["_law_cell"] ["_law_cell"] (defScope s_law_draws) := ⟨rfl, rfl, rfl, by decide +kernel, rfl, by decide +kernel, by decide +kernel⟩
theorem ok_law_draws {f  : Addr} {fd : FuncData} (F : FnP K "_law_draws" s_law_draws f fd) (hm : mg "_law_draws" = some (.ref f)) (B : Frs mg)   : HasN P w K mg base 1 "_law_draws" ["_law_cell"] p_law_draws f := by
  refine has_ofN F hm sc_law_draws (fun ds ds1 h => by obtain ⟨c, rfl, rfl⟩ := h; rfl) (fun _ _ _ _ _ _ us hl => match us, hl with | [_], _ => rfl) fun cdv A outer s H E ds ds1 hr hp => ?_
  have hu := hr.u100
  obtain ⟨c, rfl, rfl⟩ := hp
  by_cases hc : c < 10 ^ 18
  · unfold drawsF
    rw [if_pos hc]
    refine pbn_ifT (ptd_cmp hu (pd_var 0 rfl) (pd_pow pd_int pd_int ⟨by omega, by decide +kernel⟩) .lt) (decide_eq_true hc) (pbn_ret (pad_cons (pd_var 0 rfl) (pad_cons pd_int (pad_cons pd_bl pad_nil))))
  · unfold drawsF
    rw [if_neg hc]
    refine pbn_no (ptd_cmp hu (pd_var 0 rfl) (pd_pow pd_int pd_int ⟨by omega, by decide +kernel⟩) .lt) (decide_eq_false hc) (pbn_ret (pad_cons (pd_bin (pd_var 0 rfl) (pd_pow (pd_pow (pd_pow pd_int pd_int ⟨by omega, by decide +kernel⟩) pd_int ⟨by omega, by decide +kernel⟩) pd_int ⟨by omega, by decide +kernel⟩) (.modI (by decide +kernel))) (pad_cons pd_int (pad_cons pd_bl pad_nil))))
def p_law_next (ds0 : List PyData) (ds : List Sl) (r : PyData) (ds1 : List PyData) : Prop := ∃ d : Dw, ds0 = dDw d ∧ dwOk 100000 d ∧ ds = [] ∧ r = .int (nextF d).1 ∧ ds1 = dDw (nextF d).2
/-! _law_next -/
theorem sc_law_next : FnScope ["_law_draws_here", "_law_k", "_law_number"] ["_law_draws_here"] (defScope s_law_next) := ⟨rfl, rfl, rfl, by decide +kernel, rfl, by decide +kernel, by decide +kernel⟩
theorem ok_law_next {f  : Addr} {fd : FuncData} (F : FnP K "_law_next" s_law_next f fd) (hm : mg "_law_next" = some (.ref f)) (B : Frs mg)   : HasL P w K mg base 1 "_law_next" ["_law_draws_here"] p_law_next f := by
  refine has_ofL F hm sc_law_next (fun ds0 ds r ds1 h => by obtain ⟨d, rfl, hd, rfl, rfl, rfl⟩ := h; rfl) (fun _ _ _ _ _ _ us hl => match us, hl with | [_], _ => rfl) fun cdv A outer s H E qa ds0 ds r ds1 hr hp => ?_
  have hu := hr.u100
  obtain ⟨d, rfl, hd, rfl, rfl, rfl⟩ := hp
  obtain ⟨n, k, b⟩ := d
  obtain ⟨h1, h2⟩ := hd
  have h1 : 0 ≤ k := h1
  have h2 : k ≤ 100000 := h2
  refine pbd_asg (pd_bin (pd_ixL own_lsa 0 rfl pd_int rfl) pd_int .addI) (pgd_setL own_lsa 0 rfl pd_int rfl) ?_
  refine pbd_set 1 sc_law_next.nd (s := D (.int (k + 1))) (pd_ixL own_lsa 0 rfl pd_int rfl) ?_
  have e1 : (dDw (n, k, b)).set 1 (.int (k + 1)) = dDw (n, k + 1, b) := rfl
  cases b with
  | true =>
    refine b_ifT (ptd_val (pd_ixL own_lsa 0 rfl pd_int rfl)) rfl ?_
    refine pbd_set 2 sc_law_next.nd (s := D (.int (n % 10 ^ 6))) (pd_bin (pd_ixL own_lsa 0 rfl pd_int rfl) (pd_pow pd_int pd_int ⟨by omega, by decide +kernel⟩) (.modI (by decide +kernel))) ?_
    refine pbd_asg (pd_bin (pd_ixL own_lsa 0 rfl pd_int rfl) (pd_pow pd_int pd_int ⟨by omega, by decide +kernel⟩) (.divI ⟨by decide +kernel, by decide +kernel⟩)) (pgd_setL own_lsa 0 rfl pd_int rfl) ?_
    exact pbd_ret (pd_var 2 rfl) (wk_head rfl) (Nat.le_of_ble_eq_true rfl)
  | false =>
    refine b_no (ptd_val (pd_ixL own_lsa 0 rfl pd_int rfl)) rfl ?_
    refine pbd_set 2 sc_law_next.nd (pd_bin (pd_bin (pd_bin (pd_bin (pd_bin (pd_ixL own_lsa 0 rfl pd_int rfl) pd_int (.modI (by omega))) (pd_bin (pd_bin (pd_var 1 rfl) (pd_var 1 rfl) (.mulI (by unfold CMul; omega))) pd_int (.mulI (by unfold CMul; omega))) .addI) (pd_var 1 rfl) .addI) pd_int (.mulI (by unfold CMul; omega))) pd_int (.modI (by omega))) ?_
    refine pbd_set 2 sc_law_next.nd (pd_bin (pd_bin (pd_var 2 rfl) (pd_var 2 rfl) (.mulI (by unfold CMul; omega))) pd_int (.modI (by omega))) ?_
    exact pbd_ret (pd_bin (pd_bin (pd_bin (pd_var 2 rfl) (pd_bin (pd_var 2 rfl) pd_int .addI) (.mulI (by unfold CMul; omega))) pd_int (.modI (by omega))) pd_int (.divI ⟨by omega, by omega⟩)) (wk_head rfl) (Nat.le_of_ble_eq_true rfl)
end
end Ct

-- W25
set_option Elab.async false
set_option linter.all false
set_option maxRecDepth 100000
set_option maxHeartbeats 1000000
/-! W25: the law's drawn trains (printed by gen2.py from W25.src). -/
namespace Ct
open PySem PySem.Spec L2
theorem nextF_nn (d : Dw) : 0 ≤ (nextF d).1 := by
  unfold nextF
  split
  · exact Int.emod_nonneg _ (by decide +kernel)
  · exact Int.ediv_nonneg (Int.emod_nonneg _ (by decide)) (by decide)
theorem nextF_ok {m : Nat} {d : Dw} (h : dwOk m d) : dwOk (m + 1) (nextF d).2 := by
  obtain ⟨h1, h2⟩ := h
  unfold nextF
  split
  · exact ⟨by show 0 ≤ d.2.1 + 1; omega, by show d.2.1 + 1 ≤ _; omega⟩
  · exact ⟨by show 0 ≤ d.2.1 + 1; omega, by show d.2.1 + 1 ≤ _; omega⟩
theorem dwOk.mono {m n : Nat} {d : Dw} (h : dwOk m d) (hm : m ≤ n) : dwOk n d := ⟨h.1, by have := h.2; omega⟩
def capF : Nat → Int
  | 0 => 5
  | 1 => 4
  | _ => 3
def dieF (_ : Int) (d : Dw) : Bool × Dw := (decide ((nextF d).1 % 3 > 0), (nextF d).2)
def pickF (way teeth : Int) (ms : List Int) : Part := if way ≤ 3 then .wheel teeth ms else if way = 4 then .click else if way = 5 then .rocker else .spring teeth
def teethF (k : Nat) (d : Dw) : Int := 1 + (nextF (nextF d).2).1 % capF k
def marksF' (k : Nat) (d : Dw) : List Int × Dw := keepF dieF ((List.range (teethF k d).toNat).map fun i => ((i : Nat) : Int)) (nextF (nextF d).2).2
def partF (k : Nat) (d : Dw) : Part × Dw := (pickF ((nextF d).1 % 7) (teethF k d) (marksF' k d).1, (marksF' k d).2)
def partsF : Nat → Dw → List Part × Dw
  | 0, d => ([], d)
  | n + 1, d => ((partsF n d).1 ++ [(partF n (partsF n d).2).1], (partF n (partsF n d).2).2)
def trainF (d : Dw) : List Part × Dw := partsF (1 + (nextF d).1 % 3).toNat (nextF d).2
theorem capF_bd (k : Nat) : 3 ≤ capF k ∧ capF k ≤ 5 := by
  unfold capF
  split <;> omega
theorem teethF_bd (k : Nat) (d : Dw) : 1 ≤ teethF k d ∧ teethF k d ≤ capF k := by
  unfold teethF
  have := capF_bd k
  have h1 := Int.emod_nonneg (nextF (nextF d).2).1 (show capF k ≠ 0 by omega)
  have h2 := Int.emod_lt_of_pos (nextF (nextF d).2).1 (show 0 < capF k by omega)
  omega
theorem keepF_ok {xs : List Int} : ∀ {m : Nat} {d : Dw}, dwOk m d → dwOk (m + xs.length) (keepF dieF xs d).2 := by
  induction xs with
  | nil => intro m d h; exact h
  | cons x xs ih =>
    intro m d h
    have := ih (nextF_ok h)
    rw [List.length_cons, show m + (xs.length + 1) = m + 1 + xs.length by omega]
    exact this
theorem keepF_sub {xs : List Int} : ∀ (d : Dw), ((keepF dieF xs d).1).Sublist xs := by
  induction xs with
  | nil => intro d; exact List.Sublist.slnil
  | cons x xs ih =>
    intro d
    rw [keepF]
    dsimp only
    split
    · exact (ih _).cons₂ x
    · exact (ih _).cons x
theorem partF_ok {m k : Nat} {d : Dw} (h : dwOk m d) : dwOk (m + 7) (partF k d).2 := by
  have h1 := teethF_bd k d
  have h2 := capF_bd k
  have := keepF_ok (xs := (List.range (teethF k d).toNat).map fun i => ((i : Nat) : Int)) (nextF_ok (nextF_ok h))
  rw [List.length_map, List.length_range] at this
  exact dwOk.mono this (by omega)
theorem partsF_ok {m : Nat} {d : Dw} (h : dwOk m d) : ∀ n, dwOk (m + 7 * n) (partsF n d).2
  | 0 => h
  | n + 1 => dwOk.mono (partF_ok (partsF_ok h n)) (by omega)
theorem partsF_len (d : Dw) : ∀ n, (partsF n d).1.length = n
  | 0 => rfl
  | n + 1 => by rw [partsF, List.length_append, partsF_len d n]; rfl
theorem pick_at {way teeth : Int} {ms : List Int} (h0 : 0 ≤ way) (h1 : way < 7) :
    atI [PyData.tuple [.str "wheel", .int teeth, .tuple (ms.map .int)], .tuple [.str "click"], .tuple [.str "rocker"], .tuple [.str "spring", .int teeth]] (if way - 3 > 0 then way - 3 else 0) = some (dPart (pickF way teeth ms)) := by
  have : way = 0 ∨ way = 1 ∨ way = 2 ∨ way = 3 ∨ way = 4 ∨ way = 5 ∨ way = 6 := by omega
  rcases this with rfl | rfl | rfl | rfl | rfl | rfl | rfl <;> rfl
theorem cap_at {k : Nat} (h : k < 3) : atI [PyData.int 5, .int 4, .int 3] ((k : Nat) : Int) = some (.int (capF k)) := by
  have : k = 0 ∨ k = 1 ∨ k = 2 := by omega
  rcases this with rfl | rfl | rfl <;> rfl
section
variable {P : Program} {w : World} {K : PySem.W.Frag} {mg : Str → Option Value} {base : Heap}
def p_law_train (ds0 : List PyData) (ds : List Sl) (r : PyData) (ds1 : List PyData) : Prop := ∃ d : Dw, ds0 = dDw d ∧ dwOk 10000 d ∧ ds = [] ∧ r = dTrain (trainF d).1 ∧ ds1 = dDw (trainF d).2
/-! _law_train -/
theorem sc_law_train : FnScope ["_law_draws_here", "_law_train_here", "_law_k", "_law_way", "_law_teeth", "_law_marks", "_law_place"] ["_law_draws_here"] (defScope s_law_train) := ⟨rfl, rfl, rfl, by decide +kernel, rfl, by decide +kernel, by decide +kernel⟩
theorem ok_law_train {f f_law_next : Addr} {fd : FuncData} (F : FnP K "_law_train" s_law_train f fd) (hm : mg "_law_train" = some (.ref f)) (B : Frs mg) (h_law_next : HasL P w K mg base 1 "_law_next" ["_law_draws_here"] p_law_next f_law_next)  : HasL P w K mg base 2 "_law_train" ["_law_draws_here"] p_law_train f := by
  refine has_ofL F hm sc_law_train (fun ds0 ds r ds1 h => by obtain ⟨d, rfl, hd, rfl, rfl, rfl⟩ := h; rfl) (fun _ _ _ _ _ _ us hl => match us, hl with | [_], _ => rfl) fun cdv A outer s H E qa ds0 ds r ds1 hr hp => ?_
  have hu := hr.u100
  obtain ⟨d, rfl, hd, rfl, rfl, rfl⟩ := hp
  have hsz : sizeLine = 2 ^ 24 := rfl
  have hn0 := nextF_nn d
  refine pbd_own 1 sc_law_train.nd (ds := []) (pn_lst (ps := []) pad_nil) ?_
  refine pbd_for rfl (pid_range1 B.range (pd_bin pd_int (pd_bin (pd_callO own_lsa 0 h_law_next (hr.mono (by decide)) rfl pad_nil rfl ⟨d, rfl, dwOk.mono hd (by omega), rfl, rfl, rfl⟩) pd_int (.modI (by omega))) .addI) (by omega) (by omega)) (fun k δ => ∃ s1 s2 s3 s4 s5 : Sl, δ = [.lsa qa (dDw (partsF k (nextF d).2).2), .lst ((partsF k (nextF d).2).1.map dPart), s1, s2, s3, s4, s5]) ?_ (fun k it δa hit hI => ?_) (fun δa hI => ?_)
  · exact ⟨.any, .any, .any, .any, .any, rfl⟩
  · obtain ⟨s1, s2, s3, s4, s5, rfl⟩ := hI
    obtain ⟨hk, rfl⟩ := upto_at hit
    rw [Int.zero_add]
    have hk3 : k < 3 := by omega
    have hd1 := partsF_ok (nextF_ok hd) k
    have hd2 : dwOk 11000 (partsF k (nextF d).2).2 := dwOk.mono hd1 (by omega)
    generalize hD : (partsF k (nextF d).2).2 = e at hd1 hd2
    have hn1 := nextF_nn e
    have ht := teethF_bd k e
    have hc := capF_bd k
    have hll := partsF_len (nextF d).2 k
    refine ⟨_, .nx [.lsa qa (dDw (partF k e).2), .lst ((partsF (k + 1) (nextF d).2).1.map dPart), .any, .any, .any, .any, .any], (pgd_name 2 sc_law_train.nd), ?_, .any, .any, .any, .any, .any, by rw [partsF, hD]⟩
    refine pbd_set 3 sc_law_train.nd (s := D (.int ((nextF e).1 % 7))) (pd_bin (pd_callO own_lsa 0 h_law_next (hr.mono (by decide)) rfl pad_nil rfl ⟨e, rfl, dwOk.mono hd2 (by omega), rfl, rfl, rfl⟩) pd_int (.modI (by omega))) ?_
    refine pbd_set 4 sc_law_train.nd (s := D (.int (teethF k e))) (pd_bin pd_int (pd_bin (pd_callO own_lsa 0 h_law_next (hr.mono (by decide)) rfl pad_nil rfl ⟨(nextF e).2, rfl, dwOk.mono (nextF_ok hd2) (by omega), rfl, rfl, rfl⟩) (pd_ix (pd_lst (ps := [_, _, _]) (pad_cons pd_int (pad_cons pd_int (pad_cons pd_int pad_nil)))) (pd_var 2 rfl) (.lst (cap_at hk3))) (.modI (by omega))) .addI) ?_
    have ht5 : (teethF k e).toNat < 100 := by omega
    refine pbd_set 5 sc_law_train.nd (s := D (.tuple ((marksF' k e).1.map .int))) (pd_tuple B.tuple (pd_lcW [("_law_place", 6)] ((List.range (teethF k e).toNat).map fun i => ((i : Nat) : Int)) .int .int dieF (fun b => [.lsa qa (dDw b), .lst ((partsF k (nextF d).2).1.map dPart), D (.int k), D (.int ((nextF e).1 % 7)), D (.int (teethF k e)), s4, .any]) (nextF (nextF e).2).2 (fun i b => dwOk (11002 + i) b) rfl sc_law_train.nd
      (PID.eq (pid_range1 B.range (pd_var 4 rfl) (by omega) (by omega)) ?_) (blkOk_by (N := ["_law_draws_here", "_law_train_here", "_law_k", "_law_way", "_law_teeth", "_law_marks", "_law_place"]) (own := [("_law_place", 6)]) (sc := defScope s_law_train) (by decide +kernel)) rfl (nextF_ok (nextF_ok hd2))
      (fun i x b hx hb => ⟨nextF_ok hb, [.lsa qa (dDw b), .lst ((partsF k (nextF d).2).1.map dPart), D (.int k), D (.int ((nextF e).1 % 7)), D (.int (teethF k e)), s4, D (.int x)], [.lsa qa (dDw (dieF x b).2), .lst ((partsF k (nextF d).2).1.map dPart), D (.int k), D (.int ((nextF e).1 % 7)), D (.int (teethF k e)), s4, D (.int x)], fun _ _ _ _ _ => pgw_name 6 sc_law_train.nd, fun _ _ _ _ _ => ptsd_one (ptd_cmp hu (pd_bin (pd_callO own_lsa 0 h_law_next (hr.mono (by decide)) rfl pad_nil rfl ⟨b, rfl, dwOk.mono hb ?_, rfl, rfl, rfl⟩) pd_int (.modI (by omega))) pd_int .gt), fun _ _ _ _ _ => pd_var 6 rfl, rfl⟩) (small_size ?_) (fun _ => rfl))) ?_
    · unfold upto
      rw [List.map_map]
      refine List.map_congr_left fun i _ => ?_
      show PyData.int (0 + (i : Int)) = .int i
      rw [Int.zero_add]
    · have hi := (List.getElem?_eq_some_iff.mp hx).1
      rw [List.length_map, List.length_range] at hi
      omega
    · rw [List.length_map, List.length_range]
      omega
    refine pbd_append (d := dPart (pickF ((nextF e).1 % 7) (teethF k e) (marksF' k e).1)) 1 rfl (pd_ix (pd_lst (ps := [_, _, _, _]) (pad_cons (pd_tup (ps := [_, _, _]) (pad_cons pd_str (pad_cons (pd_var 4 rfl) (pad_cons (pd_var 5 rfl) pad_nil)))) (pad_cons (pd_tup (ps := [_]) (pad_cons pd_str pad_nil)) (pad_cons (pd_tup (ps := [_]) (pad_cons pd_str pad_nil)) (pad_cons (pd_tup (ps := [_, _]) (pad_cons pd_str (pad_cons (pd_var 4 rfl) pad_nil))) pad_nil))))) (pd_max2 rfl B.max pd_int (pd_bin (pd_var 3 rfl) pd_int .subI)) (.lst (pick_at (by omega) (by omega)))) rfl (by rw [List.length_map]; omega) ?_
    refine pbd_wipe [2, 3, 4, 5, 6] (pbd_nx ?_)
    rw [partsF, hD, List.map_append]
    rfl
  · obtain ⟨s1, s2, s3, s4, s5, rfl⟩ := hI
    rw [upto_len]
    refine pbd_freeze 1 rfl ?_
    exact pbd_ret (pd_var 1 rfl) (wk_head rfl) (Nat.le_of_ble_eq_true rfl)
end
end Ct

-- W26
set_option Elab.async false
set_option linter.all false
set_option maxRecDepth 100000
set_option maxHeartbeats 1000000
/-! W26: the law's drawn stands and what is seen (printed by gen2.py from W26.src). -/
namespace Ct
open PySem PySem.Spec L2
def standF (T : List Part) (d : Dw) : List Int × Dw := T.foldl (fun a p => (a.1 ++ [(nextF a.2).1 % places p], (nextF a.2).2)) ([], d)
theorem standF_snoc (T : List Part) (p : Part) (d : Dw) : standF (T ++ [p]) d = ((standF T d).1 ++ [(nextF (standF T d).2).1 % places p], (nextF (standF T d).2).2) := by
  unfold standF
  rw [List.foldl_append]
  rfl
theorem standF_ok {m : Nat} {d : Dw} (h : dwOk m d) (T : List Part) : dwOk (m + T.length) (standF T d).2 := by
  unfold standF
  suffices ∀ (a : List Int × Dw) (m : Nat), dwOk m a.2 → dwOk (m + T.length) (T.foldl (fun a p => (a.1 ++ [(nextF a.2).1 % places p], (nextF a.2).2)) a).2 from this ([], d) m h
  induction T with
  | nil => exact fun a m h => h
  | cons p T ih =>
    intro a m h
    rw [List.foldl_cons, List.length_cons, show m + (T.length + 1) = m + 1 + T.length by omega]
    exact ih _ _ (nextF_ok h)
theorem standF_len (d : Dw) (T : List Part) : (standF T d).1.length = T.length := by
  unfold standF
  suffices ∀ (a : List Int × Dw), (T.foldl (fun a p => (a.1 ++ [(nextF a.2).1 % places p], (nextF a.2).2)) a).1.length = a.1.length + T.length by
    rw [this]; exact Nat.zero_add _
  induction T with
  | nil => exact fun a => rfl
  | cons p T ih =>
    intro a
    rw [List.foldl_cons, ih, List.length_append]
    simp only [List.length_cons, List.length_nil]
    omega
theorem places_pos {p : Part} (h : p.ok) : 0 < places p := by
  cases p with
  | wheel z ms => have := h.1; show 0 < z; omega
  | click => show (0 : Int) < 1; omega
  | rocker => show (0 : Int) < 2; omega
  | spring k => have := h.1; show 0 < k; omega
def wayF (r : Int) : Int := if r % 2 = 0 then 1 else -1
theorem wayF_ok (r : Int) : isWay (wayF r) := by
  unfold wayF
  split
  · exact .inl rfl
  · exact .inr rfl
theorem way_at (r : Int) : atI [PyData.int 1, .int (0 - 1)] (r % 2) = some (.int (wayF r)) := by
  unfold wayF
  rcases Int.emod_two_eq r with h | h
  · rw [h, if_pos rfl]; rfl
  · rw [h, if_neg (by decide)]; rfl
def idxF (n : Nat) (d : Dw) : Nat := ((nextF d).1 % (n : Int)).toNat
theorem idxF_eq {n : Nat} (d : Dw) (h : 0 < n) : ((idxF n d : Nat) : Int) = (nextF d).1 % (n : Int) := Int.toNat_of_nonneg (Int.emod_nonneg _ (by omega))
theorem idxF_lt {n : Nat} (d : Dw) (h : 0 < n) : idxF n d < n := by
  have h1 := idxF_eq d h
  have h2 := Int.emod_lt_of_pos (nextF d).1 (show (0 : Int) < n by omega)
  omega
/-- what is seen, where one stands then, what is left to draw -/
def sawF (T : List Part) (s : List Int) (d : Dw) : Nat → List Sn × List Int × Dw
  | 0 => ([], s, d)
  | n + 1 =>
    ((sawF T s d n).1 ++ [(((idxF T.length (sawF T s d n).2.2 : Nat) : Int), wayF (nextF (nextF (sawF T s d n).2.2).2).1, (pushN T (sawF T s d n).2.1 (idxF T.length (sawF T s d n).2.2) (wayF (nextF (nextF (sawF T s d n).2.2).2).1) 1).2)],
      (pushN T (sawF T s d n).2.1 (idxF T.length (sawF T s d n).2.2) (wayF (nextF (nextF (sawF T s d n).2.2).2).1) 1).1, (nextF (nextF (sawF T s d n).2.2).2).2)
def seenF (T : List Part) (s : List Int) (many : Int) (d : Dw) : List Sn × List Int × Dw := sawF T s (nextF d).2 ((nextF d).1 % many).toNat
theorem sawF_ok {m : Nat} {T : List Part} {s : List Int} {d : Dw} (h : dwOk m d) : ∀ n, dwOk (m + 2 * n) (sawF T s d n).2.2
  | 0 => h
  | n + 1 => dwOk.mono (nextF_ok (nextF_ok (sawF_ok h n))) (by omega)
theorem sawF_num (T : List Part) (s : List Int) (d : Dw) : ∀ n, (sawF T s d n).1.length = n
  | 0 => rfl
  | n + 1 => by rw [sawF, List.length_append, sawF_num T s d n]; rfl
theorem sawF_len {T : List Part} {s : List Int} {d : Dw} (hs : s.length = T.length) (hT : 0 < T.length) : ∀ n, (sawF T s d n).2.1.length = T.length
  | 0 => hs
  | n + 1 => pushN_len.trans (sawF_len hs hT n)
section
variable {P : Program} {w : World} {K : PySem.W.Frag} {mg : Str → Option Value} {base : Heap}
def p_law_stand (ds0 : List PyData) (ds : List Sl) (r : PyData) (ds1 : List PyData) : Prop := ∃ (d : Dw) (T : List Part), ds0 = dDw d ∧ dwOk 10000 d ∧ trainOk T ∧ ds = [D (dTrain T)] ∧ r = dStand (standF T d).1 ∧ ds1 = dDw (standF T d).2
/-! _law_stand -/
theorem sc_law_stand : FnScope ["_law_draws_here", "_law_train_here", "_law_found", "_law_part", "_law_many"] ["_law_draws_here", "_law_train_here"] (defScope s_law_stand) := ⟨rfl, rfl, rfl, by decide +kernel, rfl, by decide +kernel, by decide +kernel⟩
theorem ok_law_stand {f f_law_next : Addr} {fd : FuncData} (F : FnP K "_law_stand" s_law_stand f fd) (hm : mg "_law_stand" = some (.ref f)) (B : Frs mg) (h_law_next : HasL P w K mg base 1 "_law_next" ["_law_draws_here"] p_law_next f_law_next)  : HasL P w K mg base 2 "_law_stand" ["_law_draws_here", "_law_train_here"] p_law_stand f := by
  refine has_ofL F hm sc_law_stand (fun ds0 ds r ds1 h => by obtain ⟨d, T, rfl, hd, hT, rfl, rfl, rfl⟩ := h; rfl) (fun _ _ _ _ _ _ us hl => match us, hl with | [_, _], _ => rfl) fun cdv A outer s H E qa ds0 ds r ds1 hr hp => ?_
  have hu := hr.u100
  obtain ⟨d, T, rfl, hd, hT, rfl, rfl, rfl⟩ := hp
  have hsz : sizeLine = 2 ^ 24 := rfl
  have hl2 := hT.2.1
  refine pbd_set 2 sc_law_stand.nd (s := D (.tuple [])) (pd_tup (ps := []) pad_nil) ?_
  refine pbd_for rfl (pid_list (pd_var 1 rfl)) (fun k δ => ∃ s3 s4 : Sl, δ = [.lsa qa (dDw (standF (T.take k) d).2), D (dTrain T), D (dStand (standF (T.take k) d).1), s3, s4]) ?_ (fun k it δa hit hI => ?_) (fun δa hI => ?_)
  · exact ⟨.any, .any, rfl⟩
  · obtain ⟨s3, s4, rfl⟩ := hI
    rw [List.getElem?_map] at hit
    obtain ⟨p, hp, rfl⟩ := Option.map_eq_some_iff.mp hit
    have hpo := hT.2.2 p (List.mem_of_getElem? hp)
    have hkl := (List.getElem?_eq_some_iff.mp hp).1
    have hpp := places_pos hpo
    have hok := standF_ok hd (T.take k)
    have hll := standF_len d (T.take k)
    rw [List.length_take] at hok hll
    have e1 : standF (T.take (k + 1)) d = ((standF (T.take k) d).1 ++ [(nextF (standF (T.take k) d).2).1 % places p], (nextF (standF (T.take k) d).2).2) := by
      rw [List.take_add_one, hp]
      exact standF_snoc _ _ _
    refine ⟨_, .nx [.lsa qa (dDw (standF (T.take (k + 1)) d).2), D (dTrain T), D (dStand (standF (T.take (k + 1)) d).1), .any, .any], (pgd_name 3 sc_law_stand.nd), ?_, .any, .any, rfl⟩
    rw [e1]
    cases p with
    | wheel z ms =>
      refine pbd_set 4 sc_law_stand.nd (s := D (.int 1)) (pd_bin pd_int (pd_intB B.int (pd_cmp hu (pd_ix (pd_var 3 rfl) pd_int (.tup rfl)) pd_str (.eq Ly.shp Ly.shp))) .addI) ?_
      refine b_ifT (ptd_w (w_orT (ptd_cmp hu (pd_ix (pd_var 3 rfl) pd_int (.tup rfl)) pd_str (.eq Ly.shp Ly.shp)) rfl)) rfl ?_
      refine pbd_set 4 sc_law_stand.nd (s := D (.int (places (.wheel z ms)))) (pd_ix (pd_var 3 rfl) pd_int (.tup rfl)) (pbd_pop ?_)
      refine pbd_set 2 sc_law_stand.nd (s := D (dStand ((standF (T.take k) d).1 ++ [(nextF (standF (T.take k) d).2).1 % places (.wheel z ms)]))) (PED.eq (pd_bin (pd_var 2 rfl) (pd_tup (ps := [_]) (pad_cons (pd_bin (pd_callO own_lsa 0 h_law_next (hr.mono (by decide)) rfl pad_nil rfl ⟨_, rfl, dwOk.mono hok (by omega), rfl, rfl, rfl⟩) (pd_var 4 rfl) (.modI hpp)) pad_nil)) (.addT ?_)) ?_) ?_
      · rw [List.length_map, hll]; simp only [List.length_cons, List.length_nil]; omega
      · show PyData.tuple _ = PyData.tuple _
        rw [List.map_append]; rfl
      exact pbd_wipe [3, 4] (pbd_nx rfl)
    | click =>
      refine pbd_set 4 sc_law_stand.nd (s := D (.int (places .click))) (pd_bin pd_int (pd_intB B.int (pd_cmp hu (pd_ix (pd_var 3 rfl) pd_int (.tup rfl)) pd_str (.eq Ly.shp Ly.shp))) .addI) ?_
      refine b_no (ptd_w (w_orF (ptd_cmp hu (pd_ix (pd_var 3 rfl) pd_int (.tup rfl)) pd_str (.eq Ly.shp Ly.shp)) rfl (w_or1 (ptd_cmp hu (pd_ix (pd_var 3 rfl) pd_int (.tup rfl)) pd_str (.eq Ly.shp Ly.shp))))) rfl ?_
      refine pbd_set 2 sc_law_stand.nd (s := D (dStand ((standF (T.take k) d).1 ++ [(nextF (standF (T.take k) d).2).1 % places .click]))) (PED.eq (pd_bin (pd_var 2 rfl) (pd_tup (ps := [_]) (pad_cons (pd_bin (pd_callO own_lsa 0 h_law_next (hr.mono (by decide)) rfl pad_nil rfl ⟨_, rfl, dwOk.mono hok (by omega), rfl, rfl, rfl⟩) (pd_var 4 rfl) (.modI hpp)) pad_nil)) (.addT ?_)) ?_) ?_
      · rw [List.length_map, hll]; simp only [List.length_cons, List.length_nil]; omega
      · show PyData.tuple _ = PyData.tuple _
        rw [List.map_append]; rfl
      exact pbd_wipe [3, 4] (pbd_nx rfl)
    | rocker =>
      refine pbd_set 4 sc_law_stand.nd (s := D (.int (places .rocker))) (pd_bin pd_int (pd_intB B.int (pd_cmp hu (pd_ix (pd_var 3 rfl) pd_int (.tup rfl)) pd_str (.eq Ly.shp Ly.shp))) .addI) ?_
      refine b_no (ptd_w (w_orF (ptd_cmp hu (pd_ix (pd_var 3 rfl) pd_int (.tup rfl)) pd_str (.eq Ly.shp Ly.shp)) rfl (w_or1 (ptd_cmp hu (pd_ix (pd_var 3 rfl) pd_int (.tup rfl)) pd_str (.eq Ly.shp Ly.shp))))) rfl ?_
      refine pbd_set 2 sc_law_stand.nd (s := D (dStand ((standF (T.take k) d).1 ++ [(nextF (standF (T.take k) d).2).1 % places .rocker]))) (PED.eq (pd_bin (pd_var 2 rfl) (pd_tup (ps := [_]) (pad_cons (pd_bin (pd_callO own_lsa 0 h_law_next (hr.mono (by decide)) rfl pad_nil rfl ⟨_, rfl, dwOk.mono hok (by omega), rfl, rfl, rfl⟩) (pd_var 4 rfl) (.modI hpp)) pad_nil)) (.addT ?_)) ?_) ?_
      · rw [List.length_map, hll]; simp only [List.length_cons, List.length_nil]; omega
      · show PyData.tuple _ = PyData.tuple _
        rw [List.map_append]; rfl
      exact pbd_wipe [3, 4] (pbd_nx rfl)
    | spring z =>
      refine pbd_set 4 sc_law_stand.nd (s := D (.int 1)) (pd_bin pd_int (pd_intB B.int (pd_cmp hu (pd_ix (pd_var 3 rfl) pd_int (.tup rfl)) pd_str (.eq Ly.shp Ly.shp))) .addI) ?_
      refine b_ifT (ptd_w (w_orF (ptd_cmp hu (pd_ix (pd_var 3 rfl) pd_int (.tup rfl)) pd_str (.eq Ly.shp Ly.shp)) rfl (w_or1 (ptd_cmp hu (pd_ix (pd_var 3 rfl) pd_int (.tup rfl)) pd_str (.eq Ly.shp Ly.shp))))) rfl ?_
      refine pbd_set 4 sc_law_stand.nd (s := D (.int (places (.spring z)))) (pd_ix (pd_var 3 rfl) pd_int (.tup rfl)) (pbd_pop ?_)
      refine pbd_set 2 sc_law_stand.nd (s := D (dStand ((standF (T.take k) d).1 ++ [(nextF (standF (T.take k) d).2).1 % places (.spring z)]))) (PED.eq (pd_bin (pd_var 2 rfl) (pd_tup (ps := [_]) (pad_cons (pd_bin (pd_callO own_lsa 0 h_law_next (hr.mono (by decide)) rfl pad_nil rfl ⟨_, rfl, dwOk.mono hok (by omega), rfl, rfl, rfl⟩) (pd_var 4 rfl) (.modI hpp)) pad_nil)) (.addT ?_)) ?_) ?_
      · rw [List.length_map, hll]; simp only [List.length_cons, List.length_nil]; omega
      · show PyData.tuple _ = PyData.tuple _
        rw [List.map_append]; rfl
      exact pbd_wipe [3, 4] (pbd_nx rfl)
  · obtain ⟨s3, s4, rfl⟩ := hI
    rw [List.length_map, List.take_length]
    exact pbd_ret (pd_var 2 rfl) (wk_head rfl) (Nat.le_of_ble_eq_true rfl)
def p_law_seen (ds0 : List PyData) (ds : List Sl) (r : PyData) (ds1 : List PyData) : Prop := ∃ (d : Dw) (T : List Part) (s : List Int) (many : Int), ds0 = dDw d ∧ dwOk 10000 d ∧ trainOk T ∧ s.length = T.length ∧ 0 < many ∧ many ≤ 100 ∧ ds = [D (dTrain T), D (dStand s), D (.int many)] ∧ r = .list ((seenF T s many d).1.map dSn) ∧ ds1 = dDw (seenF T s many d).2.2
/-! _law_seen -/
theorem sc_law_seen : FnScope ["_law_draws_here", "_law_train_here", "_law_stand_here", "_law_many", "_law_found", "_law_k", "_law_i", "_law_way", "_law_shown"] ["_law_draws_here", "_law_train_here", "_law_stand_here", "_law_many"] (defScope s_law_seen) := ⟨rfl, rfl, rfl, by decide +kernel, rfl, by decide +kernel, by decide +kernel⟩
theorem ok_law_seen {f f_pushed f_law_next : Addr} {fd : FuncData} (F : FnP K "_law_seen" s_law_seen f fd) (hm : mg "_law_seen" = some (.ref f)) (B : Frs mg) (h_pushed : Has P w K mg base 4 "pushed" ["train", "stand", "i", "way"] p_pushed f_pushed) (h_law_next : HasL P w K mg base 1 "_law_next" ["_law_draws_here"] p_law_next f_law_next)  : HasL P w K mg base 5 "_law_seen" ["_law_draws_here", "_law_train_here", "_law_stand_here", "_law_many"] p_law_seen f := by
  refine has_ofL F hm sc_law_seen (fun ds0 ds r ds1 h => by obtain ⟨d, T, s, many, rfl, hd, hT, hs, hm0, hm1, rfl, rfl, rfl⟩ := h; rfl) (fun _ _ _ _ _ _ us hl => match us, hl with | [_, _, _, _], _ => rfl) fun cdv A outer s H E qa ds0 ds r ds1 hr hp => ?_
  have hu := hr.u100
  obtain ⟨d, T, s, many, rfl, hd, hT, hs, hm0, hm1, rfl, rfl, rfl⟩ := hp
  have hsz : sizeLine = 2 ^ 24 := rfl
  have hl2 := hT.2.1
  have hl1 : 0 < T.length := List.length_pos_iff.mpr hT.1
  have hn := Int.emod_nonneg (nextF d).1 (show many ≠ 0 by omega)
  have hn2 := Int.emod_lt_of_pos (nextF d).1 hm0
  refine pbd_own 4 sc_law_seen.nd (ds := []) (pn_lst (ps := []) pad_nil) ?_
  refine pbd_for rfl (pid_range1 B.range (pd_bin (pd_callO own_lsa 0 h_law_next (hr.mono (by decide)) rfl pad_nil rfl ⟨d, rfl, dwOk.mono hd (by omega), rfl, rfl, rfl⟩) (pd_var 3 rfl) (.modI (by omega))) (by omega) (by omega)) (fun k δ => ∃ s5 s6 s7 s8 : Sl, δ = [.lsa qa (dDw (sawF T s (nextF d).2 k).2.2), D (dTrain T), D (dStand (sawF T s (nextF d).2 k).2.1), D (.int many), .lst ((sawF T s (nextF d).2 k).1.map dSn), s5, s6, s7, s8]) ?_ (fun k it δa hit hI => ?_) (fun δa hI => ?_)
  · exact ⟨.any, .any, .any, .any, rfl⟩
  · obtain ⟨s5, s6, s7, s8, rfl⟩ := hI
    obtain ⟨hk, rfl⟩ := upto_at hit
    have hk1 : k < 100 := by omega
    have hok := sawF_ok (T := T) (s := s) (nextF_ok hd) k
    have hnum := sawF_num T s (nextF d).2 k
    have hlen := sawF_len (d := (nextF d).2) hs hl1 k
    refine ⟨_, .nx [.lsa qa (dDw (sawF T s (nextF d).2 (k + 1)).2.2), D (dTrain T), D (dStand (sawF T s (nextF d).2 (k + 1)).2.1), D (.int many), .lst ((sawF T s (nextF d).2 (k + 1)).1.map dSn), .any, .any, .any, .any], (pgd_name 5 sc_law_seen.nd), ?_, .any, .any, .any, .any, rfl⟩
    rw [sawF]
    generalize hA : sawF T s (nextF d).2 k = a at hok hnum hlen
    obtain ⟨l, t, e⟩ := a
    have hok : dwOk (10000 + 1 + 2 * k) e := hok
    have hlen : t.length = T.length := hlen
    have hnum : l.length = k := hnum
    have hi := idxF_lt e hl1
    refine pbd_set 6 sc_law_seen.nd (s := D (.int ((idxF T.length e : Nat) : Int))) (PED.eq (pd_bin (pd_callO own_lsa 0 h_law_next (hr.mono (by decide)) rfl pad_nil rfl ⟨e, rfl, dwOk.mono hok (by omega), rfl, rfl, rfl⟩) (pd_len B.len (pd_var 1 rfl) .lst) (.modI ?_)) ?_) ?_
    · rw [List.length_map]; omega
    · rw [List.length_map]; exact congrArg PyData.int (idxF_eq e hl1).symm
    refine pbd_set 7 sc_law_seen.nd (s := D (.int (wayF (nextF (nextF e).2).1))) (pd_ix (pd_lst (ps := [_, _]) (pad_cons pd_int (pad_cons (pd_bin pd_int pd_int .subI) pad_nil))) (pd_bin (pd_callO own_lsa 0 h_law_next (hr.mono (by decide)) rfl pad_nil rfl ⟨(nextF e).2, rfl, dwOk.mono (nextF_ok hok) (by omega), rfl, rfl, rfl⟩) pd_int (.modI (by omega))) (.lst (way_at _))) ?_
    refine pbd_asg (pd_call h_pushed (hr.mono (by decide)) (pad_cons (pd_var 1 rfl) (pad_cons (pd_var 2 rfl) (pad_cons (pd_var 6 rfl) (pad_cons (pd_var 7 rfl) pad_nil)))) ⟨T, t, idxF T.length e, wayF (nextF (nextF e).2).1, rfl, hT, hlen, by omega, wayF_ok _, rfl⟩) (pgd_tup rfl (pgds_cons (pgd_name 2 sc_law_seen.nd) (pgds_cons (pgd_name 8 sc_law_seen.nd) pgds_nil))) ?_
    refine pbd_append (d := dSn (((idxF T.length e : Nat) : Int), wayF (nextF (nextF e).2).1, (pushN T t (idxF T.length e) (wayF (nextF (nextF e).2).1) 1).2)) 4 rfl (pd_tup (ps := [_, _, _]) (pad_cons (pd_var 6 rfl) (pad_cons (pd_var 7 rfl) (pad_cons (pd_var 8 rfl) pad_nil)))) rfl (by rw [List.length_map]; omega) ?_
    refine pbd_wipe [5, 6, 7, 8] (pbd_nx ?_)
    dsimp only
    rw [List.map_append]
    rfl
  · obtain ⟨s5, s6, s7, s8, rfl⟩ := hI
    rw [upto_len]
    refine pbd_freeze 4 rfl ?_
    exact pbd_ret (pd_var 4 rfl) (wk_head rfl) (Nat.le_of_ble_eq_true rfl)
end
end Ct

-- DL18
set_option Elab.async false
set_option linter.all false
set_option maxRecDepth 100000
set_option maxHeartbeats 1000000
/-! DL18: promises that know that no repr is under way. -/
namespace Ct
open PySem PySem.Spec PyProof.Rows L2
/-- no repr is under way -/
abbrev Free (A : Around) : Prop := A.guards = some []
structure FnFree (P : Program) (w : World) (K : PySem.W.Frag) (mg : Str → Option Value) (base : Heap) (k : Nat) (f : Addr) (fd : FuncData) (ps : List Str) (sp : Sp) : Prop where
  num : ∀ vs H Q E, sp vs H Q E → vs.length = ps.length
  go : ∀ (A : Around) (outer : List Env) (s : Shared) (H : Hp) (args : Args) (us : List Value) (vs : List V) (Q : VK) (E : XK), Free A → Room k A → Env0 P w K mg base A outer s H → BindsTo s fd args (ps.zip us) → Vals vs us → sp vs H Q E →
    codeAny (model P w) A (.call (.ref f) args) (CR CX0 outer P w H s Q E) s
section
variable {P : Program} {w : World} {K : PySem.W.Frag} {mg : Str → Option Value} {base : Heap}
theorem fnFree_of {k : Nat} {f : Addr} {name qual : Str} {params : Arguments} {body : List Stmt} {scope : Scope} {dV kV doc pm cdv ct oc : Value} {an od : Option Addr} {osl : Array (Option Value)} {N ps : List Str} {sp : Sp}
    (at_ : K.lookup f = some ⟨oc, od, .func (PySem.W.fnOf name qual params body scope dV kV doc pm an cdv ct), osl⟩) (code : PySem.W.codeIn K cdv qual = true) (S : FnScope N ps scope) (num : ∀ vs H Q E, sp vs H Q E → vs.length = ps.length)
    (whole : ∀ (A : Around) (outer : List Env) (s : Shared) (H : Hp) (vs : List V) (Q : VK) (E : XK), Free A → Room k (A.deeper (envOfC qual scope s.heap.objs.size f cdv)) → sp vs H Q E →
      ∃ t, PSs (cxOf CX0 P w K mg base N qual scope f cdv A outer s H E) body t ∧ t { nx := fun _ H' => Q .non H', rt := Q } (start N vs) H) :
    FnFree P w K mg base (k + 1) f (PySem.W.fnOf name qual params body scope dV kV doc pm an cdv ct) ps sp := by
  constructor
  · exact num
  intro A outer s H args us vs Q E free room env bnd vals pre
  have hn := num _ _ _ _ pre
  have inK : K.In s.heap := env.mod.kin.keeps fun b o e => (env.bs b o e).1
  have nolim : s.heap.NoLimit := env.mod.nolimit.keeps fun b o e => (env.bs b o e).1
  have kinds : ∀ y ∈ ps.zip us, scope.names.lookup y.1 = some .local ∨ (scope.names.lookup y.1 = some .cell ∧ ((cellsFrom (s.heap.objs.size + 1) scope.names []).lookup y.1).isSome = true) := by
    rintro ⟨n, v⟩ hy
    cases S.par n (List.of_mem_zip hy).1 with
    | inl q => exact .inl q
    | inr q => exact .inr ⟨q, PySem.W.cellsFrom_some _ _ _ (.inl q)⟩
  apply codeAny_call_function room.depth (inK _ _ at_) rfl S.co S.gen rfl (PySem.W.codeRec_of inK code)
  refine bnd _ _ _ _ (wpAny_newFunctionEnv_cells S.kind kinds fun e he s1 x => ?_)
  subst he
  constructor
  · exact nolim.keeps x.toInCall.keep
  apply codeAny_func
  obtain ⟨t, ht, hq⟩ := whole A outer s H vs Q E free (room.deeper _) pre
  have I := inv_start (CX := CX0) (E := E) S room.hd env hn vals x
  have fin : ∀ {σ' : L2.St} {H' : Hp} {v : V} {u : Value} {s' : Shared}, Inv (cxOf CX0 P w K mg base N qual scope f cdv A outer s H E) [] σ' H' s' → RelV v u → Q v H' → CE outer P w H s Q u s' := by
    intro σ' H' v u s' J rv q
    exact ⟨v, H', J.os, J.bare, J.base, J.hok, rv, q⟩
  refine wpAny_mono (ht.run [] s1 (start N vs) H _ I hq) (fun fl s' z => ?_) fun _ _ z => z
  match fl, z with
  | .ret u, ⟨v, σ', H', J, rv, q⟩ => exact fin J rv q
  | .next, ⟨σ', H', J, q⟩ => exact fin (v := V.non) (u := Value.none) J rfl q
  | .brk, ⟨_, _, _, q⟩ => exact q.elim
  | .cont, ⟨_, _, _, q⟩ => exact q.elim
/-- the module's name x is a def that keeps its promise where no repr is under way -/
structure HasF (P : Program) (w : World) (K : PySem.W.Frag) (mg : Str → Option Value) (base : Heap) (n : Nat) (x : Str) (ps : List Str) (pre : List Sl → PyData → Prop) (f : Addr) : Prop where
  at_ : mg x = some (.ref f)
  kp : PySem.W.keepIn K (.ref f) = true
  ex : ∃ fd, Binds K fd ps [] ∧ FnFree P w K mg base n f fd ps (PSp P w pre)
theorem has_ofF {x name : Str} {n : Nat} {st : Stmt} {N ps : List Str} {pre : List Sl → PyData → Prop} {f : Addr} {fd : FuncData} (F : FnP K name st f fd) (hm : mg x = some (.ref f)) (S : FnScope N ps (defScope st))
    (len : ∀ ds r, pre ds r → ds.length = ps.length)
    (hb : ∀ (kV doc pm : Value) (an : Option Addr) (cdv ct : Value) (us : List Value), us.length = ps.length → bindArgs (PySem.W.fnOf name name (defArgs st) (defBody st) (defScope st) .none kV doc pm an cdv ct) ⟨us, []⟩ = pure (ps.zip us))
    (body : ∀ (cdv : Value) (A : Around) (outer : List Env) (s : Shared) (H : Hp) (E : XK) (ds : List Sl) (r : PyData), Free A → Room n (A.deeper (PyProof.Rows.envOfC name (defScope st) s.heap.objs.size f cdv)) → pre ds r →
      ∃ o, PBD (Xf P w K mg base N name st f cdv A outer s H E) (st0 N ds) [defBody st] o ∧ Ends1 r o) : HasF P w K mg base (n + 1) x ps pre f := by
  obtain ⟨oc, od, dV, kV, doc, pm, an, cdv, ct, osl, rfl, lk, hcd, dv, kw⟩ := F.ex
  have hB := F.bindsN hb
  refine ⟨hm, F.kp, _, hB, fnFree_of lk hcd S ?_ ?_⟩
  · rintro vs H Q E ⟨G, ds, r, hp, g, rv, q⟩
    exact (Paired.length rv).trans (len ds r hp)
  · rintro A outer s H vs Q E fr hr ⟨G, ds, r, hp, g, rv, q⟩
    obtain ⟨o, hBd, ho⟩ := body cdv A outer s H E ds r fr hr hp
    have hl : vs.length ≤ N.length := by
      have h1 := (Paired.length rv).trans (len ds r hp)
      have h2 := congrArg List.length S.pre
      rw [List.length_take] at h2
      omega
    refine ⟨_, PSs.nox hBd.pss, G, H, G, stok_start g rv hl, ?_⟩
    rcases ho with rfl | ⟨rfl, δ, rfl⟩
    · intro v σ G' H' g' S' r'
      exact q v G' H' S'.leave r'
    · intro σ G' H' g' S'
      exact q .non G' H' ((S'.weak Wk.nil (Nat.zero_le _)).leave) .non
end
section
variable {X : Cx} {e a : Expr} {δ δ1 : List Sl} {pos p : Pos} {r : PyData} {es : List Expr} {ds : List Sl}
theorem pe_callFree {f : Addr} {fd : FuncData} {k : Nat} {x : Str} {ps : List Str} {sp : Sp} {t : TA} (F : FnFree X.prog X.w X.K X.mg X.base k f fd ps sp) (fr : Free X.A) (hr : Room k X.A) (hg : Gl X x) (hm : X.mg x = some (.ref f)) (hk : PySem.W.keepIn X.K (.ref f) = true) (hb : Binds X.K fd ps [])
    (ha : PA X (e :: es) t) (hdb : (x == ("__debug__" : Str)) = false := by decide) (he : starEach (e :: es) X.env = (false, eval e X.env) :: starEach es X.env := by rfl) (hpl : (backTo pos (starEach es X.env)).any (·.1) = false := by rfl) :
    PE X (.Call (.Name x p) (e :: es) [] pos) (tCall sp [] E0 t) := by
  constructor
  intro pins s σ H Q I h
  refine wpAny_Call_Name_kw (ld_glob I hg hm (PySem.W.callWith_K (h₀ := X.base) I.ok.mod.kin hk (thn (ha.run pos pins s σ H _ I h) ?_) he hpl) hdb)
  rintro us s1 ⟨vs, H1, I1, r1, q⟩
  refine ⟨I1.kIn, ?_⟩
  have q' : sp vs H1 (fun v H' => Q v H') E0 := by
    have z := q
    rw [List.append_nil] at z
    exact z
  have hl : us.length = ps.length := by rw [← r1.length]; exact F.num _ _ _ _ q'
  refine wpAny_call (codeAny_mono (F.go X.A X.stack s1 H1 ⟨us, []⟩ us vs _ _ fr hr I1.env0 ?_ r1 q') fun z s' hq => ?_)
  · have b0 := hb s1 us I1.kIn (by rw [List.append_nil]; exact hl)
    rw [List.append_nil] at b0
    exact b0
  match z, hq with
  | .error e, hq => exact pass0 pins σ H1 s1 e s' I1 hq
  | .ok (.ret u), hq => exact I1.after hq
  | .ok .next, hq => exact hq.elim
  | .ok .brk, hq => exact hq.elim
  | .ok .cont, hq => exact hq.elim
theorem pd_callF {x : Str} {ps : List Str} {pre : List Sl → PyData → Prop} {n : Nat} {f : Addr} (F : HasF X.prog X.w X.K X.mg X.base n x ps pre f) (fr : Free X.A) (hr : Room n X.A) (ha : PAD X δ (a :: es) ds δ1) (hp : pre ds r) (hg : Gl X x := by rfl)
    (hdb : (x == ("__debug__" : Str)) = false := by decide) (he : starEach (a :: es) X.env = (false, eval a X.env) :: starEach es X.env := by rfl) (hpl : (backTo pos (starEach es X.env)).any (·.1) = false := by rfl) :
    PED X δ (.Call (.Name x p) (a :: es) [] pos) (D r) δ1 := by
  obtain ⟨fd, hb, F'⟩ := F.ex
  refine (pe_callFree F' fr hr hg F.at_ F.kp hb ha hdb he hpl).imp ?_
  rintro σ H Q ⟨G0, H0, G, S, q⟩
  refine ⟨G0, H0, G, S, fun vs G1 H1 g1 S1 rvs => ⟨G1, ds, r, hp, S1.gh, by rw [List.append_nil]; exact rvs, ?_⟩⟩
  intro v G' H' x rv
  exact q v G' H' (same_trans g1 x.gg) (S1.ext x) rv
end
end Ct

-- DL19
set_option Elab.async false
set_option linter.all false
set_option maxRecDepth 100000
set_option maxHeartbeats 1000000
/-! DL19: the text of a list or a tuple; the law called where no repr is under way. -/
namespace Ct
open PySem PySem.Spec PyProof.Rows L2
section
variable {X : Cx} {a : Expr} {δ δ1 : List Sl} {pos p : Pos} {d1 : PyData}
theorem call_strT (fr : Free X.A) (hu : X.A.units + 100 < cLine) : CallR X (.type "str") (fun xs H Q => ∃ (l : Addr) (d : PyData), xs = [.ref l] ∧ Dp X.K H (.ref l) d ∧ d.showable = true ∧ d.hasDict = false ∧ d.depth ≤ 50 ∧ d.shown.length ≤ sizeLine ∧ Q (.str d.shown) H) := by
  rintro pins s σ H xs us Q I r ⟨l, d, rfl, hd, h1, h2, h3, h4, q⟩
  obtain ⟨u, rfl, rx⟩ := vals1 r
  obtain ⟨as, hr⟩ := Dp.reads I d _ _ hd rx
  cases rx
  refine str_of_reads hr h1 (fun e => by rw [h2] at e; cases e) fr (by omega) (fun _ _ e => e) (fun h' u tk hk => ?_) h4
  exact ⟨.str d.shown, H, I.kept (t' := tk) hk, ⟨u, rfl⟩, q⟩
theorem pd_strT {ds : List PyData} (fr : Free X.A) (hu : X.A.units + 100 < cLine) (hm : X.mg "str" = none) (ha : PED X δ a (D (.tuple ds)) δ1) (h1 : (PyData.tuple ds).showable = true) (h2 : (PyData.tuple ds).hasDict = false) (h3 : (PyData.tuple ds).depth ≤ 50) (h4 : (PyData.tuple ds).shown.length ≤ sizeLine)
    (hg : Gl X "str" := by rfl) (he : starEach [a] X.env = (false, eval a X.env) :: starEach [] X.env := by rfl) : PED X δ (.Call (.Name "str" p) [a] [] pos) (D (.str (PyData.tuple ds).shown)) δ1 := by
  refine (pe_callTy (call_strT fr hu) hg hm (by decide +kernel) (pad_cons ha pad_nil he) (he := he)).imp fun σ H Q h => tD_call (fun G H xs Q g rx q => ?_) h
  obtain ⟨v, rfl, rv⟩ := vsok1 rx
  obtain ⟨l, xs, rfl, t1, t2⟩ := dt_tup rv
  exact ⟨l, .tuple ds, rfl, Dt.dp _ (Dt.mono g _ rv), h1, h2, h3, h4, Ext.here g q (Dt.str _)⟩
end
end Ct

-- DL20
set_option Elab.async false
set_option linter.all false
set_option maxRecDepth 100000
set_option maxHeartbeats 1000000
/-! DL20: the law's promise at the heap behind the top, where no repr is under way. -/
namespace L2
open PySem PySem.Spec PyProof.Rows
theorem free_core {P : Program} {w : World} {K : PySem.W.Frag} {mg mb : Str → Option Value} {k : Nat} {fa a : Addr} {fd : FuncData} {x : Str} {sp : Sp} {s₁ : Shared} {vs : List Value} {H : Hp}
    (KX : K.In s₁.heap) (names : s₁.heap.Ns mainGlobals mg) (bn : s₁.heap.Ns builtinsNs mb) (boot : ∀ x : Str, x ≠ "__name__" → mb x = bootBuiltins x) (nolim : s₁.heap.NoLimit) (nogen : s₁.gens = #[])
    (script : s₁.heap.get? a = some { cls := .type "list", data := .seq vs.toArray }) (room : Room k callerA)
    (F : ∀ base : Heap, K.In base → base.Ns mainGlobals mg → Ct.FnFree P w K mg base k fa fd [x] sp) (bnd : ∀ (s : Shared) (u : Value), BindsTo s fd ⟨[u], []⟩ [(x, u)])
    (pre : sp [.ref a] H (fun v _ => v = .bl true) fun _ _ _ => False)
    (only : Only H) (hok : HOk P w H s₁.heap) (own : ∀ b, H b ≠ none → b = a) (out : H a ≠ none → K.lookup a = none) :
    codeAny (model P w) callerA (.call (.ref fa) ⟨[.ref a], []⟩) (fun r s' => r = .ok (.ret (.bool true)) ∧ OldK s₁.heap s'.heap ∧ s'.os = s₁.os ∧ AllBare s'.gens) s₁ := by
  have hid : ∀ {b : Addr} {o : Obj}, s₁.heap.get? b = some o → H b = none → (hidT s₁.heap H).get? b = some o := by
    intro b o e n
    exact hidT_get e n
  have plain : ∀ {b : Addr} {o : Obj} {es : Array DictEntry} {ep : Nat}, s₁.heap.get? b = some o → o.data = .dict es ep → H b = none := by
    intro b o es ep e d
    by_cases q : H b = none
    · exact q
    · have z := own b q
      subst z
      rw [script] at e
      cases e
      exact absurd d (by intro d'; cases d')
  have nsOf : ∀ {b : Addr} {m : Str → Option Value}, s₁.heap.Ns b m → (hidT s₁.heap H).Ns b m := by
    rintro b m ⟨o, es, ep, e, d, r⟩
    exact ⟨o, es, ep, hid e (plain e d), d, r⟩
  have inK : K.In (hidT s₁.heap H) := by
    intro b o e
    refine hid (KX b o e) ?_
    by_cases q : H b = none
    · exact q
    · have z := own b q
      subst z
      rw [out q] at e
      cases e
  have md : Mod K mg (hidT s₁.heap H) := by
    obtain ⟨mc, n1, n2⟩ := nolim
    exact ⟨inK, nsOf names, ⟨mb, nsOf bn, boot⟩, ⟨mc, nsOf n1, n2⟩⟩
  have env : Env0 P w K mg (hidT s₁.heap H) callerA [] s₁ H := ⟨rfl, md, fun b o e => of_hidT e, Nat.le_of_eq (hidT_size _ _), trivial, (fun b hb => absurd (show b ∈ ([] : List Addr) from hb) (by simp)), hok, .of_eq nogen⟩
  have whole := (F _ inK (nsOf names)).go callerA [] s₁ H ⟨[.ref a], []⟩ [.ref a] [.ref a] _ _ rfl room env (bnd s₁ (.ref a)) (.cons rfl .nil) pre
  refine codeAny_mono whole fun r s' h => ?_
  match r, h with
  | .error e, h => exact (h : CX0 [] H s₁ (fun _ _ _ => False) e s').elim
  | .ok .next, h => exact h.elim
  | .ok .brk, h => exact h.elim
  | .ok .cont, h => exact h.elim
  | .ok (.ret u), ⟨v, H', os, bare, un, hok', r', q⟩ =>
    have q' : v = .bl true := q
    subst q'
    obtain rfl : u = Value.bool true := r'
    refine ⟨rfl, OldK.of_keep fun b o e => ?_, os, bare⟩
    rcases only b with z | ⟨ob, xs, z⟩
    · exact un.keep b o e z (by intro y; cases y) (by simp)
    · have e1 := (hok b _ z).1
      have e2 := (hok' b _ (un.frzs b ob _ z)).1
      rw [e] at e1
      cases e1
      exact e2
theorem free_call {P : Program} {w : World} {K : PySem.W.Frag} {mg mb : Str → Option Value} {k : Nat} {fa a : Addr} {fd : FuncData} {x : Str} {sp : Sp} {s₁ : Shared} {vs : List Value} {ns : List Int}
    (KX : K.In s₁.heap) (names : s₁.heap.Ns mainGlobals mg) (bn : s₁.heap.Ns builtinsNs mb) (boot : ∀ x : Str, x ≠ "__name__" → mb x = bootBuiltins x) (nolim : s₁.heap.NoLimit) (nogen : s₁.gens = #[])
    (script : s₁.heap.get? a = some { cls := .type "list", data := .seq vs.toArray }) (are : IntsAre vs ns) (fits : ns.length ≤ sizeLine) (room : Room k callerA)
    (F : ∀ base : Heap, K.In base → base.Ns mainGlobals mg → Ct.FnFree P w K mg base k fa fd [x] sp) (bnd : ∀ (s : Shared) (u : Value), BindsTo s fd ⟨[u], []⟩ [(x, u)])
    (pre : ∀ H : Hp, Only H → SqL K H a (ns.map V.int) → sp [.ref a] H (fun v _ => v = .bl true) fun _ _ _ => False) :
    codeAny (model P w) callerA (.call (.ref fa) ⟨[.ref a], []⟩) (fun r s' => r = .ok (.ret (.bool true)) ∧ OldK s₁.heap s'.heap ∧ s'.os = s₁.os ∧ AllBare s'.gens) s₁ := by
  have rv := vals_ints are
  have num := are.length
  by_cases known : K.lookup a = none
  · let T : Hp := fun b => if b = a then some (.frz { cls := .type "list", data := .seq vs.toArray } (.lst (ns.map V.int))) else none
    have off : ∀ {b : Addr}, b ≠ a → T b = none := fun {b} hb => if_neg hb
    have at_ : T a = some (.frz { cls := .type "list", data := .seq vs.toArray } (.lst (ns.map V.int))) := if_pos rfl
    have only : Only T := fun b => by
      by_cases hb : b = a
      · subst hb; exact .inr ⟨_, _, at_⟩
      · exact .inl (off hb)
    refine free_core KX names bn boot nolim nogen script room F bnd (pre T only (.inl (.inr ⟨_, at_⟩))) only (fun b u z => ?_) (fun b z => ?_) fun _ => known
    · by_cases hb : b = a
      · subst hb
        rw [at_] at z
        cases z
        exact ⟨script, by rw [List.length_map]; exact fits, vs, _, rv, script⟩
      · rw [off hb] at z
        cases z
    · by_cases hb : b = a
      · exact hb
      · exact absurd (off hb) z
  · obtain ⟨o, ho⟩ := Option.ne_none_iff_exists'.mp known
    have e := KX a o ho
    rw [script] at e
    cases e
    have none_ : ∀ (b : Addr) (u : HO), (fun _ => none : Hp) b = some u → False := by intro b u z; cases (show (none : Option HO) = some u from z)
    exact free_core (H := fun _ => none) KX names bn boot nolim nogen script room F bnd
      (pre _ (fun _ => .inl rfl) (.inr ⟨_, vs.toArray, _, ho, rfl, rfl, rfl, by rw [List.size_toArray, num]; exact fits, by simpa using rv⟩)) (fun _ => .inl rfl) (fun b u z => (none_ b u z).elim) (fun b z => absurd rfl z) (fun z => absurd rfl z)
/-- a law: F gives the function object, the promise over every base -/
theorem walk_free {l : PySem.W.OpenLaw} {n k : Nat} {q : Program} {loose : List Str} {XP : (Str → Option Value) → Heap → Prop} {YP : World → Heap → Prop} {d : DefRec} {x : Str}
    (most : l.most = some n) (fits : n ≤ sizeLine) (nodef : d.params.defaults = []) (room : Room k callerA)
    (F : ∀ (w : World) (mg : Str → Option Value) (fa : Addr) (h : Heap), YP w h → h.Ns mainGlobals mg → mg d.name = some (.ref fa) →
      ∃ (K : PySem.W.Frag) (fd : FuncData) (sp : Sp), K.In h ∧ (∀ (s : Shared) (u : Value), BindsTo s fd ⟨[u], []⟩ [(x, u)]) ∧
        (∀ (H : Hp) (a : Addr) (ns : List Int), ns.length ≤ n → Only H → SqL K H a (ns.map V.int) → sp [.ref a] H (fun v _ => v = .bl true) fun _ _ _ => False) ∧
        ∀ base : Heap, K.In base → base.Ns mainGlobals mg → Ct.FnFree l.prog w K mg base k fa fd [x] sp) :
    PySem.W.WalkO q loose XP YP l.row.toRowW d [] (fun f vs => PySem.call f vs) := by
  apply Att.attach_call most nodef
  intro w s₀ s₁ mg mb fa o pm cd doc a vs ns G Y ho hd hcd hmg hobj hints hlen hg
  obtain ⟨K, fd, sp, KX, hb, hsp, hF⟩ := F w mg fa _ Y G.T.g hmg
  exact free_call KX G.T.g G.T.b G.T.builtins G.T.nolimit hg hobj hints (Nat.le_trans hlen fits) room hF hb fun H hO hS => hsp H a ns hlen hO hS
end L2

-- M9
set_option Elab.async false
set_option linter.all false
set_option maxRecDepth 100000
set_option maxHeartbeats 1000000
/-! M9: answers as texts of data (str). -/
namespace Ct
open PySem PySem.Spec SX
/-- data whose text is short -/
structure Shw (d : PyData) (k B : Nat) : Prop where
  can : d.showable = true
  dict : d.hasDict = false
  dep : d.depth ≤ k
  len : d.shown.length ≤ B
theorem Shw.mono {d : PyData} {k B k' B' : Nat} (h : Shw d k B) (hk : k ≤ k') (hB : B ≤ B') : Shw d k' B' := ⟨h.can, h.dict, Nat.le_trans h.dep hk, Nat.le_trans h.len hB⟩
theorem shw_all {k B : Nat} : ∀ {ds : List PyData}, (∀ d ∈ ds, Shw d k B) → PyData.showableAll ds = true ∧ PyData.hasDictAll ds = false ∧ PyData.depthAll ds ≤ k ∧ ((PyData.shownAll ds).map (·.length)).sum ≤ ds.length * B ∧ (PyData.shownAll ds).length = ds.length
  | [], _ => ⟨by simp [PyData.showableAll], by simp [PyData.hasDictAll], by simp [PyData.depthAll], by simp [PyData.shownAll], by simp [PyData.shownAll]⟩
  | d :: ds, h => by
    obtain ⟨a1, a2, a3, a4, a5⟩ := shw_all fun x hx => h x (List.mem_cons_of_mem _ hx)
    have b := h d List.mem_cons_self
    refine ⟨by simp [PyData.showableAll, a1, b.can], by simp [PyData.hasDictAll, a2, b.dict], ?_, ?_, by simp [PyData.shownAll, a5]⟩
    · have := b.dep
      simp only [PyData.depthAll]
      omega
    · have := b.len
      simp only [PyData.shownAll, List.map_cons, List.sum_cons, List.length_cons]
      rw [Nat.add_mul, Nat.one_mul]
      omega
theorem shw_list {ds : List PyData} {k B : Nat} (h : ∀ d ∈ ds, Shw d k B) : Shw (.list ds) (k + 1) (ds.length * (B + 2) + 3) := by
  obtain ⟨a1, a2, a3, a4, a5⟩ := shw_all h
  refine ⟨by simpa [PyData.showable] using a1, by simpa [PyData.hasDict] using a2, by simp only [PyData.depth]; omega, ?_⟩
  have := listText_len_le (PyData.shownAll ds)
  simp only [PyData.shown]
  rw [Nat.mul_add]
  omega
theorem shw_tup {ds : List PyData} {k B : Nat} (h : ∀ d ∈ ds, Shw d k B) : Shw (.tuple ds) (k + 1) (ds.length * (B + 2) + 3) := by
  obtain ⟨a1, a2, a3, a4, a5⟩ := shw_all h
  refine ⟨by simpa [PyData.showable] using a1, by simpa [PyData.hasDict] using a2, by simp only [PyData.depth]; omega, ?_⟩
  have := tupleText_len_le (PyData.shownAll ds)
  simp only [PyData.shown]
  rw [Nat.mul_add]
  omega
theorem shw_sm {i : Int} (h : sm i) : Shw (.int i) 0 9 := by
  refine ⟨by simp only [PyData.showable]; exact decide_eq_true (sm_log h), by simp [PyData.hasDict], by simp [PyData.depth], ?_⟩
  simp only [PyData.shown]
  have := num_len h
  rw [num_str h.1, S_len]
  exact this
theorem shw_way {w : Int} (h : isWay w) : Shw (.int w) 0 9 := by
  rcases h with rfl | rfl
  · exact ⟨by decide +kernel, by decide +kernel, by decide +kernel, by decide +kernel⟩
  · exact ⟨by decide +kernel, by decide +kernel, by decide +kernel, by decide +kernel⟩
theorem shw_map {α : Type} {f : α → PyData} {xs : List α} {k B : Nat} (h : ∀ x ∈ xs, Shw (f x) k B) : ∀ d ∈ xs.map f, Shw d k B := fun d hd => by
  obtain ⟨x, hx, rfl⟩ := List.mem_map.mp hd
  exact h x hx
theorem shw_stand {s : List Int} (h : stSm s) : Shw (dStand s) 1 223 := by
  have := shw_tup (shw_map (f := PyData.int) fun i hi => shw_sm (h.1 i hi))
  rw [List.length_map] at this
  have hl := h.2.2
  exact this.mono (Nat.le_refl _) (by omega)
theorem shw_two {a b : PyData} {k B : Nat} (ha : Shw a k B) (hb : Shw b k B) : Shw (.tuple [a, b]) (k + 1) (2 * (B + 2) + 3) :=
  shw_tup (ds := [a, b]) fun d hd => by
    simp only [List.mem_cons, List.not_mem_nil, or_false] at hd
    rcases hd with rfl | rfl
    · exact ha
    · exact hb
theorem shw_three {a b c : PyData} {k B : Nat} (ha : Shw a k B) (hb : Shw b k B) (hc : Shw c k B) : Shw (.tuple [a, b, c]) (k + 1) (3 * (B + 2) + 3) :=
  shw_tup (ds := [a, b, c]) fun d hd => by
    simp only [List.mem_cons, List.not_mem_nil, or_false] at hd
    rcases hd with rfl | rfl | rfl
    · exact ha
    · exact hb
    · exact hc
theorem shw_word {z : Str} {k B : Nat} (hB : 9 ≤ B) (h : (reprText z).length ≤ 9 := by decide +kernel) : Shw (.str z) k B :=
  ⟨by simp [PyData.showable], by simp [PyData.hasDict], by simp [PyData.depth], by simp only [PyData.shown]; exact Nat.le_trans h hB⟩
theorem shw_ans {a : Ans} (h : ansSm a) : Shw (dAns a) 5 16000000 := by
  cases a with
  | alike ps =>
    obtain ⟨h1, h2⟩ := h
    have h3 := shw_list (shw_map (f := dPair) fun p hp => shw_two (shw_stand (h1 p hp).1) (shw_stand (h1 p hp).2))
    rw [List.length_map] at h3
    exact (shw_two (k := 3) (B := 4550003) (shw_word (by omega)) (h3.mono (Nat.le_refl _) (by omega))).mono (by omega) (by omega)
  | apart ws =>
    obtain ⟨h1, h2, h3⟩ := h
    have h4 := shw_list (shw_map (f := PyData.int) fun w hw => shw_way (h1 w hw))
    rw [List.length_map] at h4
    exact (shw_two (k := 1) (B := 1100003) (shw_word (by omega)) (h4.mono (Nat.le_refl _) (by omega))).mono (by omega) (by omega)
  | never ss =>
    obtain ⟨h1, h2⟩ := h
    have h3 := shw_list (shw_map (f := dStand) fun s hs => shw_stand (h1 s hs))
    rw [List.length_map] at h3
    exact (shw_two (k := 2) (B := 2250003) (shw_word (by omega)) (h3.mono (Nat.le_refl _) (by omega))).mono (by omega) (by omega)
  | row deed p ns =>
    obtain ⟨h1, h2, h3, h4⟩ := h
    have a1 : ∀ x ∈ p, Shw (dStep deed x) 1 36 := fun x hx => by
      have q := h1 x hx
      cases deed with
      | true => exact shw_three (shw_sm q.1) (shw_way q.2.1) (shw_sm q.2.2)
      | false => exact (shw_two (shw_sm q.1) (shw_way q.2.1)).mono (Nat.le_refl _) (by omega)
    have a2 := shw_list (shw_map (f := dStep deed) a1)
    have a3 := shw_list (shw_map (f := dNum) fun n hn => shw_two (shw_stand (h3 n hn).1) ((shw_sm (h3 n hn).2).mono (k' := 1) (B' := 223) (by omega) (by omega)))
    rw [List.length_map] at a2 a3
    exact (shw_three (k := 3) (B := 4550003) (shw_word (by omega)) (a2.mono (by omega) (by omega)) (a3.mono (Nat.le_refl _) (by omega))).mono (by omega) (by omega)
  | wheel z ms bars =>
    obtain ⟨h1, h2, h3⟩ := h
    obtain ⟨p1, p2, p3⟩ := partSm_of h1
    have a1 := shw_tup (shw_map (f := PyData.int) fun m hm => shw_sm (p2 m hm))
    have a2 := shw_list (shw_map (f := dBar) fun b hb => shw_two (shw_sm (h2 b hb).1) (shw_sm (h2 b hb).2))
    rw [List.length_map] at a1 a2
    refine (shw_tup (k := 2) (B := 100000) (ds := [.str "wheel", .int z, .tuple (ms.map .int), .list (bars.map dBar)]) fun d hd => ?_).mono (by omega) (by show 4 * _ + 3 ≤ _; omega)
    simp only [List.mem_cons, List.not_mem_nil, or_false] at hd
    rcases hd with rfl | rfl | rfl | rfl
    · exact shw_word (by omega)
    · exact (shw_sm p1).mono (by omega) (by omega)
    · exact a1.mono (by omega) (by omega)
    · exact a2.mono (by omega) (by omega)
  | none_ j k =>
    obtain ⟨h1, h2⟩ := h
    exact (shw_three (shw_word (by omega)) (shw_sm h1) (shw_sm h2)).mono (by omega) (by omega)
end Ct

-- W27
set_option Elab.async false
set_option linter.all false
set_option maxRecDepth 100000
set_option maxHeartbeats 1000000
/-! W27: an answer told, read and told again (printed by gen2.py from W27.src). -/
namespace Ct
open PySem PySem.Spec L2 SX
instance : Ly (.str "alike") 0 := ⟨.str (by decide +kernel)⟩
theorem ly_word {z : Str} {n : Nat} (h : PyData.strOk z = true := by decide +kernel) : Lay (.str z) n := .str h
theorem lay_ans (a : Ans) : Lay (dAns a) 4 := by
  have st : ∀ s : List Int, Lay (dStand s) 1 := fun s => .tuple fun d hd => by
    obtain ⟨i, _, rfl⟩ := List.mem_map.mp hd
    exact .int
  cases a with
  | alike ps =>
    refine .tuple fun d hd => ?_
    simp only [List.mem_cons, List.not_mem_nil, or_false] at hd
    rcases hd with rfl | rfl
    · exact ly_word
    · refine .list fun d hd => ?_
      obtain ⟨p, _, rfl⟩ := List.mem_map.mp hd
      refine .tuple fun d hd => ?_
      simp only [List.mem_cons, List.not_mem_nil, or_false] at hd
      rcases hd with rfl | rfl
      · exact st _
      · exact st _
  | apart ws =>
    refine .tuple fun d hd => ?_
    simp only [List.mem_cons, List.not_mem_nil, or_false] at hd
    rcases hd with rfl | rfl
    · exact ly_word
    · refine .list fun d hd => ?_
      obtain ⟨p, _, rfl⟩ := List.mem_map.mp hd
      exact .int
  | never ss =>
    refine .tuple fun d hd => ?_
    simp only [List.mem_cons, List.not_mem_nil, or_false] at hd
    rcases hd with rfl | rfl
    · exact ly_word
    · refine .list fun d hd => ?_
      obtain ⟨p, _, rfl⟩ := List.mem_map.mp hd
      exact (st _).mono (by decide)
  | row deed p ns =>
    refine .tuple fun d hd => ?_
    simp only [List.mem_cons, List.not_mem_nil, or_false] at hd
    rcases hd with rfl | rfl | rfl
    · exact ly_word
    · refine .list fun d hd => ?_
      obtain ⟨p, _, rfl⟩ := List.mem_map.mp hd
      cases deed with
      | true =>
        refine .tuple fun d hd => ?_
        simp only [List.mem_cons, List.not_mem_nil, or_false] at hd
        rcases hd with rfl | rfl | rfl <;> exact .int
      | false =>
        refine .tuple fun d hd => ?_
        simp only [List.mem_cons, List.not_mem_nil, or_false] at hd
        rcases hd with rfl | rfl <;> exact .int
    · refine .list fun d hd => ?_
      obtain ⟨p, _, rfl⟩ := List.mem_map.mp hd
      refine .tuple fun d hd => ?_
      simp only [List.mem_cons, List.not_mem_nil, or_false] at hd
      rcases hd with rfl | rfl
      · exact st _
      · exact .int
  | wheel z ms bars =>
    refine .tuple fun d hd => ?_
    simp only [List.mem_cons, List.not_mem_nil, or_false] at hd
    rcases hd with rfl | rfl | rfl | rfl
    · exact ly_word
    · exact .int
    · exact (st ms).mono (by decide)
    · refine .list fun d hd => ?_
      obtain ⟨p, _, rfl⟩ := List.mem_map.mp hd
      refine .tuple fun d hd => ?_
      simp only [List.mem_cons, List.not_mem_nil, or_false] at hd
      rcases hd with rfl | rfl <;> exact .int
  | none_ j k =>
    refine .tuple fun d hd => ?_
    simp only [List.mem_cons, List.not_mem_nil, or_false] at hd
    rcases hd with rfl | rfl | rfl
    · exact ly_word
    · exact .int
    · exact .int
theorem ans_tup (a : Ans) : ∃ ds, dAns a = .tuple ds := by cases a <;> exact ⟨_, rfl⟩
section
variable {X : Cx} {a : Expr} {δ δ1 : List Sl} {pos p : Pos} {d : PyData}
theorem pd_strA (fr : Free X.A) (hu : X.A.units + 100 < cLine) (hm : X.mg "str" = none) (ha : PED X δ a (D d) δ1) (ht : ∃ ds, d = .tuple ds) (hs : Shw d 5 16000000)
    (hg : Gl X "str" := by rfl) (he : starEach [a] X.env = (false, eval a X.env) :: starEach [] X.env := by rfl) : PED X δ (.Call (.Name "str" p) [a] [] pos) (D (.str d.shown)) δ1 := by
  obtain ⟨ds, rfl⟩ := ht
  have : sizeLine = 2 ^ 24 := rfl
  exact pd_strT fr hu hm ha hs.can hs.dict (Nat.le_trans hs.dep (by decide)) (Nat.le_trans hs.len (by omega)) hg he
theorem ptd_neS {b : Expr} {δ2 : List Sl} {x y : Str} (ha : PED X δ a (D (.str x)) δ1) (hb : PED X δ1 b (D (.str y)) δ2) (e : x = y)
    (hm : behindInMarks .NotEq b = false := by first | exact nomark _ (by decide) (by decide) | rfl) : PTD X δ (.Compare a [.NotEq] [b] pos) false δ2 := by
  subst e
  have hd : DOp rNe (D (.str x)) (D (.str x)) (D (.bool false)) := fun G H v u Q g rv ru q => by
    cases dt_str rv
    cases dt_str ru
    exact ⟨rfl, by rw [decide_eq_true rfl]; exact Ext.here g q (Dt.bl _)⟩
  refine (pt_cmpR op_ne ha hb hm).imp fun σ H Q ⟨G0, H0, G, S, q⟩ => ?_
  exact tD_op hd ⟨G0, H0, G, S, fun v G' H' g S' rv => ⟨false, dt_bl rv, q G' H' g S'⟩⟩
end
section
variable {P : Program} {w : World} {K : PySem.W.Frag} {mg : Str → Option Value} {base : Heap}
def p_law_back (ds : List Sl) (r : PyData) : Prop := ∃ a : Ans, ds = [D (dAns a)] ∧ ansSm a ∧ r = dAns a
/-! _law_back -/
theorem sc_law_back : FnScope ["_law_told", "_law_text", "_law_found"] ["_law_told"] (defScope s_law_back) := ⟨rfl, rfl, rfl, by decide +kernel, rfl, by decide +kernel, by decide +kernel⟩
theorem ok_law_back {f f_show_answer f_read_answer : Addr} {fd : FuncData} (F : FnP K "_law_back" s_law_back f fd) (hm : mg "_law_back" = some (.ref f)) (B : Frs mg) (h_show_answer : Has P w K mg base 4 "show_answer" ["told"] p_show_answer f_show_answer) (h_read_answer : Has P w K mg base 7 "read_answer" ["text"] p_read_answer f_read_answer)  : HasF P w K mg base 8 "_law_back" ["_law_told"] p_law_back f := by
  refine has_ofF F hm sc_law_back (fun ds r h => by obtain ⟨a, rfl, ha, rfl⟩ := h; rfl) (fun _ _ _ _ _ _ us hl => match us, hl with | [_], _ => rfl) fun cdv A outer s H E ds r fr hr hp => ?_
  have hu := hr.u100
  obtain ⟨a, rfl, ha, rfl⟩ := hp
  apply ends_rt
  have hs := shw_ans ha
  have hsz : sizeLine = 2 ^ 24 := rfl
  have hl := lay_ans a
  have hq : PyData.eqv (dAns a) (dAns a) = true := PySem.SeqAt.eqv_refl _ hl.1
  obtain ⟨ds, hd⟩ := ans_tup a
  refine pbd_set 1 sc_law_back.nd (pd_call h_show_answer (hr.mono (by decide)) (pad_cons (pd_var 0 rfl) pad_nil) ⟨a, rfl, ha, rfl⟩) ?_
  refine pbd_set 2 sc_law_back.nd (s := D (dAns a)) (pd_call h_read_answer (hr.mono (by decide)) (pad_cons (pd_var 1 rfl) pad_nil) ⟨a, rfl, ha, rfl⟩) ?_
  haveI : Ly (dAns a) 4 := ⟨hl⟩
  refine b_no (ptd_w (w_orF (ptd_cmp hu (pd_var 2 rfl) (pd_var 0 rfl) (.ne Ly.shp Ly.shp)) (by rw [hq]; rfl) (w_orF (ptd_neS (pd_strA fr hu B.str (pd_var 2 rfl) (ans_tup a) hs) (pd_strA fr hu B.str (pd_var 0 rfl) (ans_tup a) hs) rfl) rfl (w_or1 (ptd_neS (pd_call h_show_answer (hr.mono (by decide)) (pad_cons (pd_var 2 rfl) pad_nil) ⟨a, rfl, ha, rfl⟩) (pd_var 1 rfl) rfl))))) rfl ?_
  exact b_ret (pd_var 2 rfl) rfl
end
end Ct

-- W28
set_option Elab.async false
set_option linter.all false
set_option maxRecDepth 100000
set_option maxHeartbeats 1000000
/-! W28: lists told and read again (printed by gen2.py from W28.src). -/
namespace Ct
open PySem PySem.Spec L2 SX
theorem lay_mapL {α : Type} {f : α → PyData} {xs : List α} {n : Nat} (h : ∀ x, Lay (f x) n) : Lay (.list (xs.map f)) (n + 1) := .list fun d hd => by
  obtain ⟨x, _, rfl⟩ := List.mem_map.mp hd
  exact h x
theorem lay_step (deed : Bool) (p : Stp) : Lay (dStep deed p) 1 := by
  cases deed with
  | true =>
    refine .tuple fun d hd => ?_
    simp only [List.mem_cons, List.not_mem_nil, or_false] at hd
    rcases hd with rfl | rfl | rfl <;> exact .int
  | false =>
    refine .tuple fun d hd => ?_
    simp only [List.mem_cons, List.not_mem_nil, or_false] at hd
    rcases hd with rfl | rfl <;> exact .int
theorem lay_sn (x : Sn) : Lay (dSn x) 1 := lay_step true x
theorem lay_sh (x : Sh) : Lay (dSh x) 1 := lay_step false (x.1, x.2, 0)
theorem lay_wear (x : Wear) : Lay (dWear x) 1 := by
  cases x with
  | none => exact .none
  | some p =>
    refine .tuple fun d hd => ?_
    simp only [List.mem_cons, List.not_mem_nil, or_false] at hd
    rcases hd with rfl | rfl <;> exact .int
theorem eqv_lay {d : PyData} {n : Nat} (h : Lay d n) : PyData.eqv d d = true := PySem.SeqAt.eqv_refl _ h.1
section
variable {P : Program} {w : World} {K : PySem.W.Frag} {mg : Str → Option Value} {base : Heap}
def p_law_lists_well (ds : List Sl) (r : PyData) : Prop := ∃ (T : List Part) (s : List Int) (R : List Stp) (l : List Sn), ds = [D (dTrain T), D (dStand s), D (.list (R.map (dStep true))), D (.list (l.map dSn))] ∧ trainOk T ∧ standOk T s ∧ smAll s ∧ R.length ≤ 100 ∧ (∀ d ∈ R, deedOk T d ∧ stepSm d) ∧ l.length ≤ 1000 ∧ (∀ x ∈ l, snOk T.length x ∧ snSm x) ∧ r = .bool true
/-! _law_lists_well -/
theorem sc_law_lists_well : FnScope ["_law_train_here", "_law_stand_here", "_law_row", "_law_seen_here", "_law_again", "_law_here", "_law_deeds", "_law_shown"] ["_law_train_here", "_law_stand_here", "_law_row", "_law_seen_here"] (defScope s_law_lists_well) := ⟨rfl, rfl, rfl, by decide +kernel, rfl, by decide +kernel, by decide +kernel⟩
theorem ok_law_lists_well {f f_read_train f_read_stand f_read_row f_read_shown f_show_train f_show_stand f_show_row f_show_shown f_left f_explained : Addr} {fd : FuncData} (F : FnP K "_law_lists_well" s_law_lists_well f fd) (hm : mg "_law_lists_well" = some (.ref f)) (B : Frs mg) (h_read_train : Has P w K mg base 5 "read_train" ["text"] p_read_train f_read_train) (h_read_stand : Has P w K mg base 3 "read_stand" ["text"] p_read_stand f_read_stand) (h_read_row : Has P w K mg base 5 "read_row" ["text"] p_read_row f_read_row) (h_read_shown : Has P w K mg base 4 "read_shown" ["text"] p_read_shown f_read_shown) (h_show_train : Has P w K mg base 5 "show_train" ["train"] p_show_train f_show_train) (h_show_stand : Has P w K mg base 1 "show_stand" ["stand"] p_show_stand f_show_stand) (h_show_row : Has P w K mg base 3 "show_row" ["row"] p_show_row f_show_row) (h_show_shown : Has P w K mg base 2 "show_shown" ["shown"] p_show_shown f_show_shown) (h_left : Has P w K mg base 6 "left" ["train", "stand", "row"] p_left f_left) (h_explained : Has P w K mg base 8 "explained" ["train", "stand", "shows"] p_explained f_explained)  : Has P w K mg base 9 "_law_lists_well" ["_law_train_here", "_law_stand_here", "_law_row", "_law_seen_here"] p_law_lists_well f := by
  refine has_of F hm sc_law_lists_well (fun ds r h => by obtain ⟨T, s, R, l, rfl, hT, hs, hsm, hR, hRd, hl, hls, rfl⟩ := h; rfl) (fun _ _ _ _ _ _ us hl => match us, hl with | [_, _, _, _], _ => rfl) fun cdv A outer s H E ds r hr hp => ?_
  have hu := hr.u100
  obtain ⟨T, s, R, l, rfl, hT, hs, hsm, hR, hRd, hl, hls, rfl⟩ := hp
  apply ends_rt
  have hsl := hs.len
  have hTl := hT.2.1
  have hTn : 0 < T.length := List.length_pos_iff.mpr hT.1
  have q1 : PyData.eqv (dTrain T) (dTrain T) = true := eqv_lay (lay_mapL fun p => lay_part)
  have q2 : PyData.eqv (dStand s) (dStand s) = true := eqv_lay (lay_stand)
  have q3 : PyData.eqv (.list (R.map (dStep true))) (.list (R.map (dStep true))) = true := eqv_lay (lay_mapL (lay_step true))
  have q4 : PyData.eqv (.list (l.map dSn)) (.list (l.map dSn)) = true := eqv_lay (lay_mapL lay_sn)
  haveI : Ly (.list (l.map dSn)) 2 := ⟨lay_mapL lay_sn⟩
  haveI : Ly (.list ((explainedF T s l).map dWear)) 2 := ⟨lay_mapL lay_wear⟩
  haveI : Ly (.list (R.map (dStep true))) 2 := ⟨lay_mapL (lay_step true)⟩
  refine pbd_set 4 sc_law_lists_well.nd (s := D (dTrain T)) (pd_call h_read_train (hr.mono (by decide)) (pad_cons (pd_call h_show_train (hr.mono (by decide)) (pad_cons (pd_var 0 rfl) pad_nil) ⟨T, rfl, hT, rfl⟩) pad_nil) ⟨T, rfl, hT, rfl⟩) ?_
  refine pbd_set 5 sc_law_lists_well.nd (s := D (dStand s)) (pd_call h_read_stand (hr.mono (by decide)) (pad_cons (pd_call h_show_stand (hr.mono (by decide)) (pad_cons (pd_var 1 rfl) pad_nil) ⟨s, rfl, hsm, by omega, rfl⟩) pad_nil) ⟨s, rfl, hsm, fun q => by rw [q] at hsl; simp at hsl; omega, by omega, rfl⟩) ?_
  refine pbd_set 6 sc_law_lists_well.nd (s := D (.list (R.map (dStep true)))) (pd_call h_read_row (hr.mono (by decide)) (pad_cons (pd_call h_show_row (hr.mono (by decide)) (pad_cons (pd_var 2 rfl) pad_nil) ⟨true, R, rfl, fun x hx => (hRd x hx).2, by omega, rfl⟩) pad_nil) ⟨R, rfl, fun x hx => (hRd x hx).2, by omega, rfl⟩) ?_
  refine pbd_set 7 sc_law_lists_well.nd (s := D (.list (l.map dSn))) (pd_call h_read_shown (hr.mono (by decide)) (pad_cons (pd_call h_show_shown (hr.mono (by decide)) (pad_cons (pd_var 3 rfl) pad_nil) ⟨l, rfl, fun x hx => (hls x hx).2, by omega, rfl⟩) pad_nil) ⟨l, rfl, fun x hx => (hls x hx).2, by omega, rfl⟩) ?_
  refine b_no (ptd_w (w_orF (ptd_cmp hu (pd_var 4 rfl) (pd_var 0 rfl) (.ne Ly.shp Ly.shp)) (by rw [q1]; rfl) (w_orF (ptd_cmp hu (pd_var 5 rfl) (pd_var 1 rfl) (.ne Ly.shp Ly.shp)) (by rw [q2]; rfl) (w_orF (ptd_cmp hu (pd_var 6 rfl) (pd_var 2 rfl) (.ne Ly.shp Ly.shp)) (by rw [q3]; rfl) (w_or1 (ptd_cmp hu (pd_var 7 rfl) (pd_var 3 rfl) (.ne Ly.shp Ly.shp))))))) (by rw [q4]; rfl) ?_
  refine b_no (ptd_cmp hu (pd_call h_left (hr.mono (by decide)) (pad_cons (pd_var 4 rfl) (pad_cons (pd_var 5 rfl) (pad_cons (pd_var 6 rfl) pad_nil))) ⟨T, s, R, rfl, hT, hs, hR, fun x hx => (hRd x hx).1, rfl⟩) (pd_call h_left (hr.mono (by decide)) (pad_cons (pd_var 0 rfl) (pad_cons (pd_var 1 rfl) (pad_cons (pd_var 2 rfl) pad_nil))) ⟨T, s, R, rfl, hT, hs, hR, fun x hx => (hRd x hx).1, rfl⟩) (.ne Ly.shp Ly.shp)) ?_ ?_
  · exact (congrArg Bool.not (eqv_lay (d := .tuple [dStand (walkF T R s 0).1, .int (walkF T R s 0).2]) (n := 2) (.tuple fun d hd => by
      simp only [List.mem_cons, List.not_mem_nil, or_false] at hd
      rcases hd with rfl | rfl
      · exact lay_stand
      · exact .int))).trans rfl
  exact b_ret (pd_cmp hu (pd_call h_explained (hr.mono (by decide)) (pad_cons (pd_var 4 rfl) (pad_cons (pd_var 5 rfl) (pad_cons (pd_var 7 rfl) pad_nil))) ⟨T, s, l, rfl, hT, hs, hl, fun x hx => (hls x hx).1, rfl⟩) (pd_call h_explained (hr.mono (by decide)) (pad_cons (pd_var 0 rfl) (pad_cons (pd_var 1 rfl) (pad_cons (pd_var 3 rfl) pad_nil))) ⟨T, s, l, rfl, hT, hs, hl, fun x hx => (hls x hx).1, rfl⟩) (.eq Ly.shp Ly.shp)) (congrArg PyData.bool (eqv_lay (n := 2) (lay_mapL lay_wear)))
end
end Ct

-- M10
set_option Elab.async false
set_option linter.all false
set_option maxRecDepth 100000
set_option maxHeartbeats 1000000
/-! M10: many pushes are pushes one by one. -/
namespace Ct
open PySem
/-- how often a mark comes by -/
def cm (z m x n : Int) : Int := (n + (z - 1 - (m - x - 1) % z)) / z
theorem cm_add {z m x a b : Int} (hz : 0 < z) : cm z m x (a + b) = cm z m x a + cm z m ((x + a) % z) b := by
  unfold cm
  have h1 : (m - (x + a) % z - 1) % z = z - 1 - (a + (z - 1 - (m - x - 1) % z)) % z := by
    have e0 := Int.emod_nonneg (a + (z - 1 - (m - x - 1) % z)) (show z ≠ 0 by omega)
    have e1 := Int.emod_lt_of_pos (a + (z - 1 - (m - x - 1) % z)) hz
    have k1 := Int.mul_ediv_add_emod (a + (z - 1 - (m - x - 1) % z)) z
    have k2 := Int.mul_ediv_add_emod (m - x - 1) z
    have k3 := Int.mul_ediv_add_emod (x + a) z
    have e : m - (x + a) % z - 1 = (z - 1 - (a + (z - 1 - (m - x - 1) % z)) % z) + z * ((m - x - 1) / z + (x + a) / z - (a + (z - 1 - (m - x - 1) % z)) / z) := by
      rw [Int.mul_sub, Int.mul_add]
      omega
    rw [e, Int.add_mul_emod_self_left, Int.emod_eq_of_lt (by omega) (by omega)]
  rw [h1]
  have k1 := Int.mul_ediv_add_emod (a + (z - 1 - (m - x - 1) % z)) z
  have e2 : a + b + (z - 1 - (m - x - 1) % z) = (b + (z - 1 - (z - 1 - (a + (z - 1 - (m - x - 1) % z)) % z))) + z * ((a + (z - 1 - (m - x - 1) % z)) / z) := by omega
  rw [e2, Int.add_mul_ediv_left _ _ (by omega), Int.add_comm]
theorem cm_mod {z m x y n : Int} (h : x % z = y % z) : cm z m x n = cm z m y n := by
  unfold cm
  have : (m - x - 1) % z = (m - y - 1) % z := by
    have kx := Int.mul_ediv_add_emod x z
    have ky := Int.mul_ediv_add_emod y z
    have e : m - x - 1 = (m - y - 1) + z * (y / z - x / z) := by rw [Int.mul_sub]; omega
    rw [e, Int.add_mul_emod_self_left]
  rw [this]
theorem one_cm {z r n : Int} (hz : 0 < z) (h0 : 0 ≤ r) (h1 : r < z) : (n + (z - 1 - r)) / z = n / z + (if r < n % z then 1 else 0) := by
  have k := Int.mul_ediv_add_emod n z
  have e0 := Int.emod_nonneg n (show z ≠ 0 by omega)
  have e1 := Int.emod_lt_of_pos n hz
  split
  · have e : n + (z - 1 - r) = (n % z - 1 - r) + z * (n / z + 1) := by rw [Int.mul_add]; omega
    rw [e, Int.add_mul_ediv_left _ _ (by omega), Int.ediv_eq_zero_of_lt (by omega) (by omega)]
    omega
  · have e : n + (z - 1 - r) = (n % z + (z - 1 - r)) + z * (n / z) := by omega
    rw [e, Int.add_mul_ediv_left _ _ (by omega), Int.ediv_eq_zero_of_lt (by omega) (by omega)]
    omega
theorem wmet_cons {z m x n : Int} {ms : List Int} (hz : 0 < z) : wmet z (m :: ms) x n = cm z m x n + wmet z ms x n := by
  unfold wmet cm
  have h0 := Int.emod_nonneg (m - x - 1) (show z ≠ 0 by omega)
  have h1 := Int.emod_lt_of_pos (m - x - 1) hz
  rw [one_cm hz h0 h1, List.filter_cons]
  by_cases h : (m - x - 1) % z < n % z
  · rw [if_pos h, if_pos (by simp only [Bool.and_eq_true, decide_eq_true_eq]; omega)]
    simp only [List.length_cons]
    push_cast
    rw [Int.mul_add]
    omega
  · rw [if_neg h, if_neg (by simp only [Bool.and_eq_true, decide_eq_true_eq]; omega)]
    simp only [List.length_cons]
    push_cast
    rw [Int.mul_add]
    omega
theorem wleft_cons {z m x n : Int} {ms : List Int} (hz : 0 < z) : wleft z (m :: ms) x n = cm z (1 - m) (-x) n + wleft z ms x n := by
  unfold wleft cm
  have e : 1 - m - -x - 1 = x - m := by omega
  rw [e]
  have h0 := Int.emod_nonneg (x - m) (show z ≠ 0 by omega)
  have h1 := Int.emod_lt_of_pos (x - m) hz
  rw [one_cm hz h0 h1, List.filter_cons]
  by_cases h : (x - m) % z < n % z
  · rw [if_pos h, if_pos (decide_eq_true h)]
    simp only [List.length_cons]
    push_cast
    rw [Int.mul_add]
    omega
  · rw [if_neg h, if_neg (by simp [h])]
    simp only [List.length_cons]
    push_cast
    rw [Int.mul_add]
    omega
theorem wmet_add {z x a b : Int} (hz : 0 < z) : ∀ ms : List Int, wmet z ms x (a + b) = wmet z ms x a + wmet z ms ((x + a) % z) b
  | [] => by simp [wmet]
  | m :: ms => by
    rw [wmet_cons hz, wmet_cons hz, wmet_cons hz, wmet_add hz ms, cm_add hz]
    omega
theorem wleft_add {z x a b : Int} (hz : 0 < z) : ∀ ms : List Int, wleft z ms x (a + b) = wleft z ms x a + wleft z ms ((x - a) % z) b
  | [] => by simp [wleft]
  | m :: ms => by
    have e : cm z (1 - m) ((-x + a) % z) b = cm z (1 - m) (-((x - a) % z)) b := cm_mod (by
      have k := Int.mul_ediv_add_emod (x - a) z
      have q : -((x - a) % z) = (-x + a) + z * ((x - a) / z) := by omega
      rw [Int.emod_emod_of_dvd _ (Int.dvd_refl z), q, Int.add_mul_emod_self_left])
    rw [wleft_cons hz, wleft_cons hz, wleft_cons hz, wleft_add hz ms, cm_add hz, e]
    omega
theorem ppush_add {p : Part} {x way a b : Int} (hp : p.ok) (hx : 0 ≤ x ∧ x < places p) (hw : isWay way) (ha : 0 ≤ a) (hb : 0 ≤ b) :
    ppush p x way (a + b) = ((ppush p (ppush p x way a).1 way b).1, (ppush p x way a).2 + (ppush p (ppush p x way a).1 way b).2) := by
  cases p with
  | wheel z ms =>
    have hz : 0 < z := by have := hp.1; omega
    unfold ppush
    dsimp only
    have e1 : (x + way * (a + b)) % z = ((x + way * a) % z + way * b) % z := by
      rw [Int.emod_add_emod, Int.mul_add, Int.add_assoc]
    rcases hw with rfl | rfl
    · rw [if_pos rfl, if_pos rfl, if_pos rfl, wmet_add hz, e1, Int.one_mul]
    · have e2 : x + -1 * a = x - a := by omega
      rw [if_neg (by decide), if_neg (by decide), if_neg (by decide), wleft_add hz, e1, e2]
  | click =>
    unfold ppush
    dsimp only
    rw [Int.add_mul]
  | rocker =>
    have h1 : x = 0 ∨ x = 1 := by
      have h2 : x < 2 := hx.2
      omega
    unfold ppush
    dsimp only
    by_cases h2 : a = 0
    · subst h2
      simp
    · by_cases h3 : b = 0
      · subst h3
        simp [h2]
      · have h4 : ¬ a + b = 0 := by omega
        rw [if_neg h2, if_neg h4]
        dsimp only
        rw [if_neg h3]
        rcases hw with rfl | rfl
        · simp
        · simp
  | spring k =>
    have hk : 0 < k := by have := hp.1; omega
    have hx2 : x < k := hx.2
    rcases hw with rfl | rfl
    · have f : ∀ y n : Int, ppush (.spring k) y 1 n = ((y + n) % k, (y + n) / k) := fun y n => rfl
      rw [f, f, f, Int.emod_add_emod, ← Int.add_assoc]
      refine Prod.ext rfl ?_
      have h1 := Int.mul_ediv_add_emod (x + a) k
      have e : x + a + b = ((x + a) % k + b) + k * ((x + a) / k) := by omega
      show (x + a + b) / k = _
      rw [e, Int.add_mul_ediv_left _ _ (by omega), ← e, Int.add_comm]
    · have f : ∀ y n : Int, ppush (.spring k) y (-1) n = (if y - n > 0 then y - n else 0, 0) := fun y n => rfl
      rw [f, f, f]
      refine Prod.ext ?_ rfl
      show (if x - (a + b) > 0 then x - (a + b) else 0) = (if (if x - a > 0 then x - a else 0) - b > 0 then (if x - a > 0 then x - a else 0) - b else 0)
      split <;> split <;> split <;> omega
theorem ppush_zero {p : Part} {x way : Int} (hx : 0 ≤ x ∧ x < places p) : ppush p x way 0 = (x, 0) := by
  cases p with
  | wheel z ms =>
    have h1 : x < z := hx.2
    have hz : 0 < z := by omega
    have e : x % z = x := Int.emod_eq_of_lt hx.1 h1
    have z0 : (0 : Int) % z = 0 := Int.zero_emod z
    have w1 : wmet z ms x 0 = 0 := by
      unfold wmet
      rw [z0, Int.zero_ediv, Int.zero_mul, Int.zero_add, List.filter_eq_nil_iff.mpr fun m _ => by
        have := Int.emod_nonneg (m - x - 1) (show z ≠ 0 by omega)
        simp only [Bool.and_eq_true, decide_eq_true_eq]
        omega]
      rfl
    have w2 : wleft z ms x 0 = 0 := by
      unfold wleft
      rw [z0, Int.zero_ediv, Int.zero_mul, Int.zero_add, List.filter_eq_nil_iff.mpr fun m _ => by
        have := Int.emod_nonneg (x - m) (show z ≠ 0 by omega)
        simp only [decide_eq_true_eq]
        omega]
      rfl
    unfold ppush
    dsimp only
    rw [w1, w2, Int.mul_zero, Int.add_zero, e]
    split <;> rfl
  | click =>
    have h1 : x < 1 := hx.2
    have : x = 0 := by omega
    subst this
    unfold ppush
    simp
  | rocker => rfl
  | spring k =>
    have h1 : x < k := hx.2
    unfold ppush
    simp only [Int.add_zero, Int.sub_zero]
    split
    · rw [Int.emod_eq_of_lt hx.1 h1, Int.ediv_eq_zero_of_lt hx.1 h1]
    · refine Prod.ext ?_ rfl
      show (if x > 0 then x else 0) = x
      split <;> omega
theorem pushF_add {way : Int} (hw : isWay way) : ∀ {T : List Part} {s : List Int} {a b : Int}, (∀ p ∈ T, p.ok) → standOk T s → 0 ≤ a → 0 ≤ b →
    pushF T s way (a + b) = ((pushF T (pushF T s way a).1 way b).1, (pushF T s way a).2 + 0 * b + (pushF T (pushF T s way a).1 way b).2)
  | [], [], a, b, _, _, _, _ => by
    show (([] : List Int), a + b) = ([], a + 0 * b + b)
    rw [Int.zero_mul, Int.add_zero]
  | p :: T, x :: s, a, b, hT, hs, ha, hb => by
    have hp := hT p List.mem_cons_self
    have h1 := ppush_ok hp hs.1 hw ha
    have h2 := ppush_ok hp h1.1 hw hb
    have ih := pushF_add hw (T := T) (s := s) (a := (ppush p x way a).2) (b := (ppush p (ppush p x way a).1 way b).2) (fun q hq => hT q (List.mem_cons_of_mem _ hq)) hs.2 h1.2 h2.2
    have e := ppush_add hp hs.1 hw ha hb
    show ((ppush p x way (a + b)).1 :: (pushF T s way (ppush p x way (a + b)).2).1, (pushF T s way (ppush p x way (a + b)).2).2) = _
    rw [e]
    dsimp only
    rw [ih, Int.zero_mul, Int.zero_mul]
    rfl
  | [], _ :: _, _, _, _, h, _, _ => h.elim
  | _ :: _, [], _, _, _, h, _, _ => h.elim
theorem pushF_zero {way : Int} : ∀ {T : List Part} {s : List Int}, standOk T s → pushF T s way 0 = (s, 0)
  | [], [], _ => rfl
  | p :: T, x :: s, h => by
    show ((ppush p x way 0).1 :: (pushF T s way (ppush p x way 0).2).1, (pushF T s way (ppush p x way 0).2).2) = _
    rw [ppush_zero h.1]
    dsimp only
    rw [pushF_zero h.2]
  | [], _ :: _, h => h.elim
  | _ :: _, [], h => h.elim
/-- t pushes and one more -/
theorem pushN_succ {T : List Part} {s : List Int} {i : Nat} {way : Int} (hT : ∀ p ∈ T, p.ok) (hs : standOk T s) (hi : i ≤ T.length) (hw : isWay way) (t : Nat) :
    (pushN T s i way ((t + 1 : Nat) : Int)).1 = (pushN T (pushN T s i way (t : Int)).1 i way 1).1 := by
  have hl := hs.len
  have e := pushF_add hw (T := T.drop i) (s := s.drop i) (a := (t : Int)) (b := 1) (fun p hp => hT p (List.mem_of_mem_drop hp)) (hs.drop i) (Int.natCast_nonneg _) (by decide)
  unfold pushN
  dsimp only
  have h1 : (s.take i).length = i := by rw [List.length_take]; omega
  rw [show (((t + 1 : Nat) : Int)) = (t : Int) + 1 from rfl, e, List.take_left' h1, List.drop_left' h1]
theorem pushN_zero {T : List Part} {s : List Int} {i : Nat} {way : Int} (hs : standOk T s) : (pushN T s i way 0).1 = s := by
  unfold pushN
  dsimp only
  rw [pushF_zero (hs.drop i), List.take_append_drop]
end Ct

-- M11
set_option Elab.async false
set_option linter.all false
set_option maxRecDepth 100000
set_option maxHeartbeats 1000000
/-! M11: the answers of the searches hold. -/
namespace Ct
open PySem
section
variable {T : List Part} {E : List Int → List (Stp × List Int)} {s : List Int}
theorem innerM_srch (hE : ∀ a, standOk T a → ∀ e ∈ E a, standOk T e.2) {here : List Int} {ph : List Stp} : ∀ (es : List (Stp × List Int)) (M : Cm), (∀ e ∈ es, e ∈ E here) → Srch T E s M → aGet M here = some ph → Srch T E s (innerM here es M)
  | [], M, _, h, _ => h
  | e :: es, M, hs, h, hh => by
    have hin := hs e List.mem_cons_self
    have hok : standOk T here := h.good.ok _ (aGet_mem hh)
    obtain ⟨N0, e0⟩ := addE_pre (here := here) (M := M) (st := e.1) (b := e.2)
    exact innerM_srch hE es (addE here M e.1 e.2) (fun x hx => hs x (List.mem_cons_of_mem _ hx)) (h.add hh hin (hE _ hok _ hin)) (by rw [e0]; exact aGet_app hh)
theorem bfsS_srch (hE : ∀ a, standOk T a → ∀ e ∈ E a, standOk T e.2) : ∀ (f i : Nat) (M : Cm), Srch T E s M → Srch T E s (bfsS E f i M)
  | 0, _, _, h => h
  | f + 1, i, M, h => by
    unfold bfsS
    cases hi : M[i]? with
    | none => exact h
    | some e => exact bfsS_srch hE f (i + 1) _ (innerM_srch hE (E e.1) M (fun x hx => hx) h (h.good.at hi))
theorem came_srch (hE : ∀ a, standOk T a → ∀ e ∈ E a, standOk T e.2) (hs : standOk T s) : Srch T E s (cameS E s) := bfsS_srch hE 501 0 _ (.start hs)
theorem came_seen (hE : ∀ a, standOk T a → ∀ e ∈ E a, standOk T e.2) (hs : standOk T s) (hf : few T) : ∀ e ∈ cameS E s, ∀ x ∈ E e.1, ∃ p, aGet (cameS E s) x.2 = some p ∧ p.length ≤ e.2.length + 1 := by
  have h := bfs_inr (ends := toE E) (s := s) (ok := standOk T) (fun a ha x hx _ => by
      obtain ⟨e, he, rfl⟩ := List.mem_map.mp hx
      exact hE a ha e he) (N := 500) (fun M g => by
      have := nodup_le g.nd (m := stands T) fun x hx => by
        obtain ⟨e, he, rfl⟩ := List.mem_map.mp hx
        exact (g.ok e he).mem
      rw [List.length_map] at this
      unfold few at hf
      omega) 501 0 [(s, [])] (cameS E s) (by omega) (.start hs) (fun e he => .start) (fun j e hj => by omega) (bfsS_eq E 501 0 _)
  intro e he x hx
  exact ((h.2 e he) (x.1, x.2, false) (List.mem_map.mpr ⟨x, hx, rfl⟩)).2
theorem came_first (hE : ∀ a, standOk T a → ∀ e ∈ E a, standOk T e.2) (hs : standOk T s) : aGet (cameS E s) s = some [] := by
  obtain ⟨M', e⟩ := (came_srch hE hs).good.first
  rw [e]
  simp [aGet]
/-- the dict's keys in order -/
def keysS (M : Cm) : List (List Int) := sortS (M.map (·.1))
theorem keysS_mem {M : Cm} {a : List Int} : a ∈ keysS M ↔ a ∈ M.map (·.1) := mem_sortS
theorem keysS_nodup {M : Cm} (h : (M.map (·.1)).Nodup) : (keysS M).Nodup := (List.mergeSort_perm _ _).nodup_iff.mpr h
theorem keysS_len (M : Cm) : (keysS M).length = M.length := by
  unfold keysS sortS
  rw [List.length_mergeSort, List.length_map]
/-- never: closed -/
theorem never_closed (hE : ∀ a, standOk T a → ∀ e ∈ E a, standOk T e.2) (hs : standOk T s) (hf : few T) : ∀ x ∈ keysS (cameS E s), ∀ e ∈ E x, e.2 ∈ keysS (cameS E s) := by
  intro x hx e he
  rw [keysS_mem] at hx ⊢
  obtain ⟨y, hy, rfl⟩ := List.mem_map.mp hx
  obtain ⟨p, h1, _⟩ := came_seen hE hs hf y hy e he
  exact aGet_isSome.mp (by rw [h1]; rfl)
/-- the rows of numbers -/
def numsS (M : Cm) : List (List Int × Int) := (keysS M).map fun one => (one, ((pathOf M one).length : Int))
theorem numsS_get {M : Cm} {a : List Int} {p : List Stp} (hn : (M.map (·.1)).Nodup) (h : aGet M a = some p) : aGet (numsS M) a = some (p.length : Int) := by
  have hm : a ∈ keysS M := keysS_mem.mpr (aGet_isSome.mp (by rw [h]; rfl))
  have hk : ((numsS M).map (·.1)).Nodup := by
    unfold numsS
    rw [List.map_map]
    simpa [Function.comp_def] using keysS_nodup hn
  have := aGet_of_mem (M := numsS M) (e := (a, ((pathOf M a).length : Int))) hk (List.mem_map.mpr ⟨a, hm, rfl⟩)
  rw [this]
  unfold pathOf
  rw [h]
  rfl
theorem nums_ok (hE : ∀ a, standOk T a → ∀ e ∈ E a, standOk T e.2) (hs : standOk T s) (hf : few T) {g : List Int} {p : List Stp} (hg : aGet (cameS E s) g = some p) : NumOk T E s g p.length (numsS (cameS E s)) := by
  have S := came_srch hE hs
  have hn := S.good.nd
  refine ⟨?_, fun r hr => ?_, ?_, ?_, numsS_get hn hg, fun r hr e he => ?_⟩
  · unfold numsS
    rw [List.map_map]
    simpa [Function.comp_def] using keysS_nodup hn
  · obtain ⟨a, ha, rfl⟩ := List.mem_map.mp hr
    rw [keysS_mem] at ha
    obtain ⟨y, hy, rfl⟩ := List.mem_map.mp ha
    exact ⟨S.good.ok y hy, Int.natCast_nonneg _⟩
  · unfold numsS
    rw [List.length_map, keysS_len]
    exact S.len hf
  · exact numsS_get hn (came_first hE hs)
  · obtain ⟨a, ha, rfl⟩ := List.mem_map.mp hr
    rw [keysS_mem] at ha
    obtain ⟨y, hy, rfl⟩ := List.mem_map.mp ha
    obtain ⟨q, h1, h2⟩ := came_seen hE hs hf y hy e he
    refine ⟨_, numsS_get hn h1, ?_⟩
    have : pathOf (cameS E s) y.1 = y.2 := by
      unfold pathOf
      rw [aGet_of_mem hn hy]
      rfl
    dsimp only
    rw [this]
    omega
end
end Ct

-- M12
set_option Elab.async false
set_option linter.all false
set_option maxRecDepth 100000
set_option maxHeartbeats 1000000
/-! M12: pushes, deeds, never: as the law asks. -/
namespace Ct
open PySem
section
variable {T : List Part} {keys s : List Int}
theorem path_push (hT : ∀ p ∈ T, p.ok) : ∀ {p : List Stp} {b : List Int}, Path (toE (pEnds T keys)) s p b → walkP T s p = b ∧ ∀ st ∈ p, st.1 ∈ keys ∧ isWay st.2.1 ∧ st.2.2 = 0 := by
  intro p b h
  induction h with
  | nil => exact ⟨rfl, fun st h => by cases h⟩
  | snoc h1 he ih =>
    rename_i p a b st
    obtain ⟨x, hx, e⟩ := List.mem_map.mp he
    obtain ⟨q, hq, rfl⟩ := List.mem_map.mp hx
    cases e
    obtain ⟨i1, i2⟩ := ih
    refine ⟨?_, fun st hst => ?_⟩
    · unfold walkP at i1 ⊢
      rw [List.foldl_append, i1]
      rfl
    · rcases List.mem_append.mp hst with z | z
      · exact i2 st z
      · rw [List.mem_singleton] at z
        subst z
        exact ⟨(allP_mem hq).1, (allP_mem hq).2, rfl⟩
theorem orb_mem {x : List Int} {i : Int} {way : Int} (hT : ∀ p ∈ T, p.ok) (hx : standOk T x) (hi0 : 0 ≤ i) (hi : i < T.length) (hw : isWay way) : ∀ (f t : Nat) (met : List (List Int)) (e : Stp × List Int), e ∈ orb T i way f t (pushN T x i.toNat way (t : Int)).1 met →
    ∃ k : Nat, 0 < k ∧ k < t + f ∧ e = ((i, way, (k : Int)), (pushN T x i.toNat way (k : Int)).1)
  | 0, _, _, e, h => by cases h
  | f + 1, t, met, e, h => by
    unfold orb at h
    split at h
    · cases h
    · rcases List.mem_append.mp h with q | q
      · split at q
        · rename_i h0
          rw [List.mem_singleton] at q
          exact ⟨t, h0, by omega, q⟩
        · cases q
      · have e1 : push1 T (pushN T x i.toNat way (t : Int)).1 i way = (pushN T x i.toNat way ((t + 1 : Nat) : Int)).1 := by
          rw [pushN_succ hT hx (by omega) hw]
          rfl
        rw [e1] at q
        obtain ⟨k, k1, k2, k3⟩ := orb_mem hT hx hi0 hi hw f (t + 1) _ e q
        exact ⟨k, k1, by omega, k3⟩
theorem dEnds_mem (hT : ∀ p ∈ T, p.ok) (hk : keysOk T keys) {x : List Int} (hx : standOk T x) {e : Stp × List Int} (he : e ∈ dEnds T keys x) :
    ∃ (i way : Int) (k : Nat), i ∈ keys ∧ isWay way ∧ 0 < k ∧ k < 501 ∧ e = ((i, way, (k : Int)), (pushN T x i.toNat way (k : Int)).1) := by
  obtain ⟨p, hp, h⟩ := List.mem_flatMap.mp he
  obtain ⟨h1, h2⟩ := allP_mem hp
  obtain ⟨h3, h4⟩ := hk.2 p.1 h1
  have e0 : (pushN T x p.1.toNat p.2 ((0 : Nat) : Int)).1 = x := pushN_zero hx
  have h' : e ∈ orb T p.1 p.2 501 0 (pushN T x p.1.toNat p.2 ((0 : Nat) : Int)).1 [] := by rw [e0]; exact h
  obtain ⟨k, k1, k2, k3⟩ := orb_mem hT hx h3 h4 h2 501 0 [] e h'
  exact ⟨p.1, p.2, k, h1, h2, k1, by omega, k3⟩
theorem path_deed (hT : ∀ p ∈ T, p.ok) (hk : keysOk T keys) (hs : standOk T s) : ∀ {p : List Stp} {b : List Int}, Path (toE (dEnds T keys)) s p b → (walkF T p s 0).1 = b ∧ standOk T b ∧ ∀ st ∈ p, st.1 ∈ keys ∧ 0 < st.2.2 ∧ st.2.2 < 501 ∧ deedOk T st := by
  intro p b h
  induction h with
  | nil => exact ⟨rfl, hs, fun st h => by cases h⟩
  | snoc h1 he ih =>
    rename_i p a b st
    obtain ⟨x, hx, e⟩ := List.mem_map.mp he
    obtain ⟨i1, i2, i3⟩ := ih
    have hb := dEnds_ok (keys := keys) hT i2 x hx
    obtain ⟨i, way, k, j1, j2, j3, j4, rfl⟩ := dEnds_mem hT hk i2 hx
    cases e
    refine ⟨?_, hb, fun st hst => ?_⟩
    · rw [walkF_app]
      unfold walkF walkF
      dsimp only
      rw [i1]
    · rcases List.mem_append.mp hst with z | z
      · exact i3 st z
      · rw [List.mem_singleton] at z
        subst z
        obtain ⟨m1, m2⟩ := hk.2 i j1
        exact ⟨j1, by show (0 : Int) < k; omega, by show (k : Int) < 501; omega, m1, m2, j2, by show (0 : Int) ≤ k; omega⟩
/-- a set closed under deeds is closed under pushes -/
theorem closed_push {ss : List (List Int)} (hc : ∀ x ∈ ss, ∀ e ∈ dEnds T keys x, e.2 ∈ ss) : ∀ x ∈ ss, ∀ e ∈ pEnds T keys x, e.2 ∈ ss := by
  intro x hx e he
  obtain ⟨p, hp, rfl⟩ := List.mem_map.mp he
  show push1 T x p.1 p.2 ∈ ss
  by_cases h : push1 T x p.1 p.2 = x
  · rw [h]; exact hx
  · have : (((p.1, p.2, ((1 : Nat) : Int)) : Stp), push1 T x p.1 p.2) ∈ dEnds T keys x := by
      refine List.mem_flatMap.mpr ⟨p, hp, ?_⟩
      unfold orb
      rw [if_neg (by simp)]
      refine List.mem_append.mpr (.inr ?_)
      unfold orb
      rw [if_neg (by simpa using h)]
      refine List.mem_append.mpr (.inl ?_)
      simp
    exact hc x hx _ this
end
end Ct

-- M13
set_option Elab.async false
set_option linter.all false
set_option maxRecDepth 100000
set_option maxHeartbeats 1000000
/-! M13: the two searches' answers. -/
namespace Ct
open PySem
theorem sm_nat {i : Int} (h : 0 ≤ i) (h2 : i ≤ 100000) : sm i := by
  unfold sm
  omega
theorem st_small : ∀ {T : List Part} {s : List Int}, (∀ p ∈ T, p.ok) → standOk T s → smAll s
  | [], [], _, _ => fun i hi => by cases hi
  | p :: T, x :: s, hT, h => fun i hi => by
    rcases List.mem_cons.mp hi with rfl | hi
    · have h1 := h.1
      have h2 := (places_le (hT p List.mem_cons_self)).2
      exact sm_nat h1.1 (by omega)
    · exact st_small (fun q hq => hT q (List.mem_cons_of_mem _ hq)) h.2 i hi
  | [], _ :: _, _, h => h.elim
  | _ :: _, [], _, h => h.elim
theorem stSm_of {T : List Part} {s : List Int} (hT : trainOk T) (h : standOk T s) : stSm s := by
  have hl := h.len
  have h1 := hT.2.1
  have h2 : 0 < T.length := List.length_pos_iff.mpr hT.1
  exact ⟨st_small hT.2.2 h, fun q => by rw [q] at hl; simp at hl; omega, by omega⟩
section
variable {T : List Part} {keys s g : List Int}
theorem never_sm {T : List Part} {ss : List (List Int)} (hT : trainOk T) (h : ∀ x ∈ ss, standOk T x) (hl : ss.length ≤ 500) : ansSm (.never ss) := ⟨fun x hx => stSm_of hT (h x hx), by omega⟩
theorem path_in {E : List Int → List (Stp × List Int)} {ss : List (List Int)} (hs : s ∈ ss) (hc : ∀ x ∈ ss, ∀ e ∈ E x, e.2 ∈ ss) : ∀ {p : List Stp} {b : List Int}, Path (toE E) s p b → b ∈ ss := by
  intro p b h
  induction h with
  | nil => exact hs
  | snoc h1 he ih =>
    obtain ⟨x, hx, e⟩ := List.mem_map.mp he
    cases e
    exact hc _ ih x hx
/-- pushes of one kind stay in a set closed under pushes -/
theorem closed_many {ss : List (List Int)} (hT : ∀ p ∈ T, p.ok) (hss : ∀ x ∈ ss, standOk T x) (hc : ∀ x ∈ ss, ∀ e ∈ pEnds T keys x, e.2 ∈ ss) (hk : keysOk T keys) {i way : Int} (hi : i ∈ keys) (hw : isWay way) {x : List Int} (hx : x ∈ ss) : ∀ k : Nat, (pushN T x i.toNat way (k : Int)).1 ∈ ss
  | 0 => by
    have : (pushN T x i.toNat way ((0 : Nat) : Int)).1 = x := pushN_zero (hss x hx)
    rw [this]; exact hx
  | k + 1 => by
    have ih := closed_many hT hss hc hk hi hw hx k
    obtain ⟨h1, h2⟩ := hk.2 i hi
    rw [pushN_succ hT (hss x hx) (by omega) hw]
    refine hc _ ih ((i, way, 0), push1 T _ i way) (List.mem_map.mpr ⟨(i, way), ?_, rfl⟩)
    unfold allP
    rw [List.mem_flatMap]
    refine ⟨i, hi, ?_⟩
    rcases hw with rfl | rfl
    · exact List.mem_cons_self
    · exact List.mem_cons_of_mem _ List.mem_cons_self
theorem closed_deed {ss : List (List Int)} (hT : ∀ p ∈ T, p.ok) (hss : ∀ x ∈ ss, standOk T x) (hc : ∀ x ∈ ss, ∀ e ∈ pEnds T keys x, e.2 ∈ ss) (hk : keysOk T keys) : ∀ x ∈ ss, ∀ e ∈ dEnds T keys x, e.2 ∈ ss := by
  intro x hx e he
  obtain ⟨i, way, k, h1, h2, h3, h4, rfl⟩ := dEnds_mem hT hk (hss x hx) he
  exact closed_many hT hss hc hk h1 h2 hx k
/-- what the law asks of the two answers -/
inductive RowPair (T : List Part) (keys s g : List Int) : Ans → Ans → Prop
  | never {ss ss' : List (List Int)} : NeverOk T keys s g ss → NeverOk T keys s g ss' → RowPair T keys s g (.never ss) (.never ss')
  | row {p p' : List Stp} {ns ns' : List (List Int × Int)} : RowOk T keys s g p ns → DeedsOk T keys s g p' ns' → RowPair T keys s g (.row false p ns) (.row true p' ns')
theorem row_sm {E : List Int → List (Stp × List Int)} {deed : Bool} (hT : trainOk T) (hE : ∀ a, standOk T a → ∀ e ∈ E a, standOk T e.2) (hs : standOk T s) (hf : few T) {p : List Stp} (hg : aGet (cameS E s) g = some p) (hp : ∀ st ∈ p, stepSm st) : ansSm (.row deed p (numsS (cameS E s))) := by
  have S := came_srch hE hs
  have hl := S.len hf
  have h1 := S.short _ (aGet_mem hg)
  dsimp only at h1
  refine ⟨hp, by omega, fun n hn => ?_, by unfold numsS; rw [List.length_map, keysS_len]; omega⟩
  obtain ⟨a, ha, rfl⟩ := List.mem_map.mp hn
  rw [keysS_mem] at ha
  obtain ⟨y, hy, rfl⟩ := List.mem_map.mp ha
  refine ⟨stSm_of hT (S.good.ok y hy), ?_⟩
  have e : pathOf (cameS E s) y.1 = y.2 := by
    unfold pathOf
    rw [aGet_of_mem S.good.nd hy]
    rfl
  have h2 := S.short y hy
  dsimp only
  rw [e]
  exact sm_nat (Int.natCast_nonneg _) (by omega)
theorem row_pair (hT : trainOk T) (hs : standOk T s) (hg : standOk T g) (hk : keysOk T keys) (hf : few T) :
    RowPair T keys s g (leastA false (pEnds T keys) s g) (leastA true (dEnds T keys) s g) ∧ ansSm (leastA false (pEnds T keys) s g) ∧ ansSm (leastA true (dEnds T keys) s g) := by
  have hP : ∀ a, standOk T a → ∀ e ∈ pEnds T keys a, standOk T e.2 := fun a ha => pEnds_ok hT.2.2 ha
  have hD : ∀ a, standOk T a → ∀ e ∈ dEnds T keys a, standOk T e.2 := fun a ha => dEnds_ok hT.2.2 ha
  have SP := came_srch hP hs
  have SD := came_srch hD hs
  have lP := SP.len hf
  have lD := SD.len hf
  have okP : ∀ x ∈ keysS (cameS (pEnds T keys) s), standOk T x := fun x hx => by
    rw [keysS_mem] at hx
    obtain ⟨y, hy, rfl⟩ := List.mem_map.mp hx
    exact SP.good.ok y hy
  have okD : ∀ x ∈ keysS (cameS (dEnds T keys) s), standOk T x := fun x hx => by
    rw [keysS_mem] at hx
    obtain ⟨y, hy, rfl⟩ := List.mem_map.mp hx
    exact SD.good.ok y hy
  have sP : s ∈ keysS (cameS (pEnds T keys) s) := keysS_mem.mpr (aGet_isSome.mp (by rw [came_first hP hs]; rfl))
  have sD : s ∈ keysS (cameS (dEnds T keys) s) := keysS_mem.mpr (aGet_isSome.mp (by rw [came_first hD hs]; rfl))
  have cP := never_closed hP hs hf
  have cD := closed_push (never_closed hD hs hf)
  have kP : (keysS (cameS (pEnds T keys) s)).length ≤ 500 := by rw [keysS_len]; exact lP
  have kD : (keysS (cameS (dEnds T keys) s)).length ≤ 500 := by rw [keysS_len]; exact lD
  unfold leastA
  cases gP : aGet (cameS (pEnds T keys) s) g with
  | none =>
    have nP : g ∉ keysS (cameS (pEnds T keys) s) := fun q => aGet_none.mp gP (keysS_mem.mp q)
    cases gD : aGet (cameS (dEnds T keys) s) g with
    | none =>
      have nD : g ∉ keysS (cameS (dEnds T keys) s) := fun q => aGet_none.mp gD (keysS_mem.mp q)
      exact ⟨.never ⟨keysS_nodup SP.good.nd, okP, kP, sP, nP, cP⟩ ⟨keysS_nodup SD.good.nd, okD, kD, sD, nD, cD⟩,
        never_sm hT okP kP, never_sm hT okD kD⟩
    | some p => exact absurd (path_in sP (closed_deed hT.2.2 okP cP hk) (SD.good.path_get gD)) nP
  | some p =>
    cases gD : aGet (cameS (dEnds T keys) s) g with
    | none =>
      have nD : g ∉ keysS (cameS (dEnds T keys) s) := fun q => aGet_none.mp gD (keysS_mem.mp q)
      exact absurd (path_in sD cD (SP.good.path_get gP)) nD
    | some p' =>
      obtain ⟨a1, a2⟩ := path_push hT.2.2 (SP.good.path_get gP)
      obtain ⟨b1, b2, b3⟩ := path_deed hT.2.2 hk hs (SD.good.path_get gD)
      have s1 := SP.short _ (aGet_mem gP)
      have s2 := SD.short _ (aGet_mem gD)
      dsimp only at s1 s2
      have hT2 := hT.2.1
      refine ⟨.row ⟨by omega, fun st h => ⟨(a2 st h).1, (a2 st h).2.1⟩, a1, nums_ok hP hs hf gP⟩ ⟨by omega, fun st h => ⟨(b3 st h).1, (b3 st h).2.1, (b3 st h).2.2.2⟩, b1, nums_ok hD hs hf gD⟩, ?_, ?_⟩
      · refine row_sm hT hP hs hf gP fun st h => ?_
        obtain ⟨c1, c2, c3⟩ := a2 st h
        obtain ⟨d1, d2⟩ := hk.2 _ c1
        exact ⟨sm_nat d1 (by omega), c2, by rw [c3]; exact sm_nat (by omega) (by omega)⟩
      · refine row_sm hT hD hs hf gD fun st h => ?_
        obtain ⟨c1, c2, c3, c4⟩ := b3 st h
        obtain ⟨d1, d2⟩ := hk.2 _ c1
        exact ⟨sm_nat d1 (by omega), c4.2.2.1, sm_nat (by omega) (by omega)⟩
end
end Ct

-- W29
set_option Elab.async false
set_option linter.all false
set_option maxRecDepth 100000
set_option maxHeartbeats 1000000
/-! W29: the rows of a drawn train (printed by gen2.py from W29.src). -/
namespace Ct
open PySem PySem.Spec L2 SX
section
variable {P : Program} {w : World} {K : PySem.W.Frag} {mg : Str → Option Value} {base : Heap}
def p_law_row_well (ds : List Sl) (r : PyData) : Prop := ∃ (T : List Part) (s g : List Int) (keys : List Int), ds = [D (dTrain T), D (dStand s), D (dStand g), D (dKeys keys)] ∧ trainOk T ∧ standOk T s ∧ standOk T g ∧ keysOk T keys ∧ countF T ≤ 500 ∧ few T ∧ r = .bool true
/-! _law_row_well -/
theorem sc_law_row_well : FnScope ["_law_train_here", "_law_stand_here", "_law_goal", "_law_keys", "_law_told", "_law_deeds"] ["_law_train_here", "_law_stand_here", "_law_goal", "_law_keys"] (defScope s_law_row_well) := ⟨rfl, rfl, rfl, by decide +kernel, rfl, by decide +kernel, by decide +kernel⟩
theorem ok_law_row_well {f f_law_back f_least_pushes f_fewest_deeds f_shows_row f_shows_deeds f_shows_never f_read_pushes f_read_row f_show_pushes f_show_row : Addr} {fd : FuncData} (F : FnP K "_law_row_well" s_law_row_well f fd) (hm : mg "_law_row_well" = some (.ref f)) (B : Frs mg) (h_law_back : HasF P w K mg base 8 "_law_back" ["_law_told"] p_law_back f_law_back) (h_least_pushes : Has P w K mg base 7 "least_pushes" ["train", "stand", "goal", "keys"] p_least_pushes f_least_pushes) (h_fewest_deeds : Has P w K mg base 7 "fewest_deeds" ["train", "stand", "goal", "keys"] p_fewest_deeds f_fewest_deeds) (h_shows_row : Has P w K mg base 7 "shows_row" ["train", "stand", "goal", "keys", "thing"] p_shows_row f_shows_row) (h_shows_deeds : Has P w K mg base 7 "shows_deeds" ["train", "stand", "goal", "keys", "thing"] p_shows_deeds f_shows_deeds) (h_shows_never : Has P w K mg base 7 "shows_never" ["train", "stand", "goal", "keys", "thing"] p_shows_never f_shows_never) (h_read_pushes : Has P w K mg base 4 "read_pushes" ["text"] p_read_pushes f_read_pushes) (h_read_row : Has P w K mg base 5 "read_row" ["text"] p_read_row f_read_row) (h_show_pushes : Has P w K mg base 3 "show_pushes" ["pushes"] p_show_pushes f_show_pushes) (h_show_row : Has P w K mg base 3 "show_row" ["row"] p_show_row f_show_row)  : HasF P w K mg base 9 "_law_row_well" ["_law_train_here", "_law_stand_here", "_law_goal", "_law_keys"] p_law_row_well f := by
  refine has_ofF F hm sc_law_row_well (fun ds r h => by obtain ⟨T, s, g, keys, rfl, hT, hs, hg, hk, hc, hf, rfl⟩ := h; rfl) (fun _ _ _ _ _ _ us hl => match us, hl with | [_, _, _, _], _ => rfl) fun cdv A outer s H E ds r fr hr hp => ?_
  have hu := hr.u100
  obtain ⟨T, s, g, keys, rfl, hT, hs, hg, hk, hc, hf, rfl⟩ := hp
  apply ends_rt
  obtain ⟨hR, sm1, sm2⟩ := row_pair hT hs hg hk hf
  refine pbd_set 4 sc_law_row_well.nd (s := D (dAns (leastA false (pEnds T keys) s g))) (pd_callF h_law_back fr (hr.mono (by decide)) (pad_cons (pd_call h_least_pushes (hr.mono (by decide)) (pad_cons (pd_var 0 rfl) (pad_cons (pd_var 1 rfl) (pad_cons (pd_var 2 rfl) (pad_cons (pd_var 3 rfl) pad_nil)))) ⟨T, s, g, keys, rfl, hT, hs, hg, hk, hc, rfl⟩) pad_nil) ⟨_, rfl, sm1, rfl⟩) ?_
  refine pbd_set 5 sc_law_row_well.nd (s := D (dAns (leastA true (dEnds T keys) s g))) (pd_callF h_law_back fr (hr.mono (by decide)) (pad_cons (pd_call h_fewest_deeds (hr.mono (by decide)) (pad_cons (pd_var 0 rfl) (pad_cons (pd_var 1 rfl) (pad_cons (pd_var 2 rfl) (pad_cons (pd_var 3 rfl) pad_nil)))) ⟨T, s, g, keys, rfl, hT, hs, hg, hk, hc, rfl⟩) pad_nil) ⟨_, rfl, sm2, rfl⟩) ?_
  generalize leastA false (pEnds T keys) s g = a at hR sm1
  generalize leastA true (dEnds T keys) s g = b at hR sm2
  cases hR with
  | @never ss ss' h1 h2 =>
    refine b_no (ptd_w (w_orF (ptd_cmp hu (pd_var 4 rfl) pd_non .isN) rfl (w_orF (ptd_cmp hu (pd_var 5 rfl) pd_non .isN) rfl (w_or1 (ptd_cmp hu (pd_ix (pd_var 4 rfl) pd_int (.tup rfl)) (pd_ix (pd_var 5 rfl) pd_int (.tup rfl)) (.ne Ly.shp Ly.shp)))))) rfl ?_
    refine b_ifT (ptd_cmp hu (pd_ix (pd_var 4 rfl) pd_int (.tup rfl)) pd_str (.eq Ly.shp Ly.shp)) rfl ?_
    exact b_ret (e_andT (pd_call h_shows_never (hr.mono (by decide)) (pad_cons (pd_var 0 rfl) (pad_cons (pd_var 1 rfl) (pad_cons (pd_var 2 rfl) (pad_cons (pd_var 3 rfl) (pad_cons (pd_var 4 rfl) pad_nil))))) ⟨T, s, g, keys, ss, rfl, hT, hs, hg, hk, h1, rfl⟩) rfl (e_one (PED.eq (pd_call h_shows_never (hr.mono (by decide)) (pad_cons (pd_var 0 rfl) (pad_cons (pd_var 1 rfl) (pad_cons (pd_var 2 rfl) (pad_cons (pd_var 3 rfl) (pad_cons (pd_var 5 rfl) pad_nil))))) ⟨T, s, g, keys, ss', rfl, hT, hs, hg, hk, h2, rfl⟩) rfl))) rfl
  | @row p p' ns ns' h1 h2 =>
    have l1 : p.length ≤ 10000 := sm1.2.1
    have l2 : p'.length ≤ 10000 := sm2.2.1
    have q1 : PyData.eqv (.list (p.map (dStep false))) (.list (p.map (dStep false))) = true := eqv_lay (lay_mapL (lay_step false))
    have q2 : PyData.eqv (.list (p'.map (dStep true))) (.list (p'.map (dStep true))) = true := eqv_lay (lay_mapL (lay_step true))
    haveI : Ly (.list (p.map (dStep false))) 2 := ⟨lay_mapL (lay_step false)⟩
    haveI : Ly (.list (p'.map (dStep true))) 2 := ⟨lay_mapL (lay_step true)⟩
    refine b_no (ptd_w (w_orF (ptd_cmp hu (pd_var 4 rfl) pd_non .isN) rfl (w_orF (ptd_cmp hu (pd_var 5 rfl) pd_non .isN) rfl (w_or1 (ptd_cmp hu (pd_ix (pd_var 4 rfl) pd_int (.tup rfl)) (pd_ix (pd_var 5 rfl) pd_int (.tup rfl)) (.ne Ly.shp Ly.shp)))))) rfl ?_
    refine b_no (ptd_cmp hu (pd_ix (pd_var 4 rfl) pd_int (.tup rfl)) pd_str (.eq Ly.shp Ly.shp)) rfl ?_
    refine b_no (ptd_w (w_orF (ptd_cmp hu (pd_call h_read_pushes (hr.mono (by decide)) (pad_cons (pd_call h_show_pushes (hr.mono (by decide)) (pad_cons (pd_ix (pd_var 4 rfl) pd_int (.tup rfl)) pad_nil) ⟨false, p, rfl, sm1.1, by omega, rfl⟩) pad_nil) ⟨p, rfl, sm1.1, by omega, rfl⟩) (pd_ix (pd_var 4 rfl) pd_int (.tup rfl)) (.ne Ly.shp Ly.shp)) (by rw [q1]; rfl) (w_or1 (ptd_cmp hu (pd_call h_read_row (hr.mono (by decide)) (pad_cons (pd_call h_show_row (hr.mono (by decide)) (pad_cons (pd_ix (pd_var 5 rfl) pd_int (.tup rfl)) pad_nil) ⟨true, p', rfl, sm2.1, by omega, rfl⟩) pad_nil) ⟨p', rfl, sm2.1, by omega, rfl⟩) (pd_ix (pd_var 5 rfl) pd_int (.tup rfl)) (.ne Ly.shp Ly.shp))))) (by rw [q2]; rfl) ?_
    exact b_ret (e_andT (pd_call h_shows_row (hr.mono (by decide)) (pad_cons (pd_var 0 rfl) (pad_cons (pd_var 1 rfl) (pad_cons (pd_var 2 rfl) (pad_cons (pd_var 3 rfl) (pad_cons (pd_var 4 rfl) pad_nil))))) ⟨T, s, g, keys, p, ns, rfl, hT, hs, hg, hk, h1, rfl⟩) rfl (e_one (PED.eq (pd_call h_shows_deeds (hr.mono (by decide)) (pad_cons (pd_var 0 rfl) (pad_cons (pd_var 1 rfl) (pad_cons (pd_var 2 rfl) (pad_cons (pd_var 3 rfl) (pad_cons (pd_var 5 rfl) pad_nil))))) ⟨T, s, g, keys, p', ns', rfl, hT, hs, hg, hk, hf, h2, rfl⟩) rfl))) rfl
end
end Ct

-- M14
set_option Elab.async false
set_option linter.all false
set_option maxRecDepth 100000
set_option maxHeartbeats 1000000
/-! M14: what is drawn is good. -/
namespace Ct
open PySem
/-! ### trains -/
theorem marksF'_ok (k : Nat) (d : Dw) : marksOk (teethF k d) (marksF' k d).1 := by
  have hs := keepF_sub (xs := (List.range (teethF k d).toNat).map fun i => ((i : Nat) : Int)) (nextF (nextF d).2).2
  refine ⟨fun m hm => ?_, List.Pairwise.sublist hs ?_⟩
  · obtain ⟨i, hi, rfl⟩ := List.mem_map.mp (hs.subset hm)
    have := List.mem_range.mp hi
    omega
  · rw [List.pairwise_map]
    exact List.pairwise_lt_range.imp fun h => by omega
theorem pickF_ok {way t : Int} {ms : List Int} (h1 : 1 ≤ t) (h2 : t ≤ 1000) (h3 : marksOk t ms) : (pickF way t ms).ok ∧ 1 ≤ places (pickF way t ms) ∧ (places (pickF way t ms) ≤ t ∨ places (pickF way t ms) ≤ 2) := by
  unfold pickF
  split
  · exact ⟨⟨h1, h2, h3⟩, h1, .inl (Int.le_refl _)⟩
  · split
    · exact ⟨trivial, by decide, .inr (by decide)⟩
    · split
      · exact ⟨trivial, by decide, .inr (by decide)⟩
      · exact ⟨⟨h1, h2⟩, h1, .inl (Int.le_refl _)⟩
theorem partF_good (k : Nat) (d : Dw) : (partF k d).1.ok ∧ 1 ≤ places (partF k d).1 ∧ places (partF k d).1 ≤ capF k := by
  have h1 := teethF_bd k d
  have h2 := capF_bd k
  obtain ⟨a, b, c⟩ := pickF_ok (way := (nextF d).1 % 7) h1.1 (by omega) (marksF'_ok k d)
  exact ⟨a, b, by show places (pickF _ _ _) ≤ _; omega⟩
theorem partsF_good (d : Dw) : ∀ n, ∀ p ∈ (partsF n d).1, p.ok
  | 0, p, h => by cases h
  | n + 1, p, h => by
    rw [partsF] at h
    rcases List.mem_append.mp h with q | q
    · exact partsF_good d n p q
    · rw [List.mem_singleton] at q
      subst q
      exact (partF_good n _).1
theorem mul_cap {a b A B : Int} (ha : 1 ≤ a) (hb : 1 ≤ b) (h1 : a ≤ A) (h2 : b ≤ B) : 1 ≤ a * b ∧ a * b ≤ A * B := by
  constructor
  · have := Int.mul_le_mul ha hb (by decide) (by omega)
    omega
  · exact Int.mul_le_mul h1 h2 (by omega) (by omega)
theorem partsF_prod (d : Dw) {n : Nat} (hn : n ≤ 3) : (partsF n d).1.foldr (fun p a => places p * a) 1 ≤ 60 := by
  have h0 := partF_good 0 (partsF 0 d).2
  have h1 := partF_good 1 (partsF 1 d).2
  have h2 := partF_good 2 (partsF 2 d).2
  have c0 : capF 0 = 5 := rfl
  have c1 : capF 1 = 4 := rfl
  have c2 : capF 2 = 3 := rfl
  rw [c0] at h0
  rw [c1] at h1
  rw [c2] at h2
  have a2 := mul_cap h2.2.1 (show (1 : Int) ≤ 1 by decide) h2.2.2 (Int.le_refl 1)
  have a1 := mul_cap h1.2.1 (show (1 : Int) ≤ 1 by decide) h1.2.2 (Int.le_refl 1)
  have a0 := mul_cap h0.2.1 (show (1 : Int) ≤ 1 by decide) h0.2.2 (Int.le_refl 1)
  have a12 := mul_cap h1.2.1 a2.1 h1.2.2 a2.2
  have a012 := mul_cap h0.2.1 a12.1 h0.2.2 a12.2
  have a01 := mul_cap h0.2.1 a1.1 h0.2.2 a1.2
  have : n = 0 ∨ n = 1 ∨ n = 2 ∨ n = 3 := by omega
  rcases this with rfl | rfl | rfl | rfl
  · exact (by decide : (1 : Int) ≤ 60)
  · exact Int.le_trans a0.2 (by decide)
  · exact Int.le_trans a01.2 (by decide)
  · exact Int.le_trans a012.2 (by decide)
structure Drawn (T : List Part) : Prop where
  ok : trainOk T
  small : T.length ≤ 3
  st : (stands T).length ≤ 60
  cnt : countF T ≤ 500
theorem Drawn.few {T : List Part} (h : Drawn T) : few T := Nat.le_trans h.st (by decide)
theorem Drawn.pfew {T U : List Part} (h : Drawn T) (k : Drawn U) : pfew T U := Nat.mul_le_mul h.st k.st
theorem trainF_good (d : Dw) : Drawn (trainF d).1 := by
  have h0 := Int.emod_nonneg (nextF d).1 (show (3 : Int) ≠ 0 by decide)
  have h1 := Int.emod_lt_of_pos (nextF d).1 (show (0 : Int) < 3 by decide)
  have hl : (trainF d).1.length = (1 + (nextF d).1 % 3).toNat := partsF_len _ _
  have hok : ∀ p ∈ (trainF d).1, p.ok := partsF_good _ _
  have hp : (trainF d).1.foldr (fun p a => places p * a) 1 ≤ 60 := partsF_prod _ (by omega)
  have hs := stands_len hok
  refine ⟨⟨fun e => ?_, by omega, hok⟩, by omega, by omega, ?_⟩
  · rw [e] at hl
    simp only [List.length_nil] at hl
    omega
  · unfold countF
    rw [foldl_count]
    omega
/-! ### stands -/
theorem standF_good (d : Dw) {T : List Part} (h : ∀ p ∈ T, p.ok) : standOk T (standF T d).1 := by
  have key : ∀ (T : List Part) (a : List Int × Dw), (∀ p ∈ T, p.ok) → ∃ s, (T.foldl (fun a p => (a.1 ++ [(nextF a.2).1 % places p], (nextF a.2).2)) a).1 = a.1 ++ s ∧ standOk T s := by
    intro T
    induction T with
    | nil => exact fun a _ => ⟨[], by rw [List.append_nil]; rfl, trivial⟩
    | cons p T ih =>
      intro a h
      obtain ⟨s, e, hs⟩ := ih (a.1 ++ [(nextF a.2).1 % places p], (nextF a.2).2) fun q hq => h q (List.mem_cons_of_mem _ hq)
      have hp := places_pos (h p List.mem_cons_self)
      refine ⟨(nextF a.2).1 % places p :: s, ?_, ⟨Int.emod_nonneg _ (by omega), Int.emod_lt_of_pos _ hp⟩, hs⟩
      rw [List.foldl_cons, e, List.append_assoc]
      rfl
  obtain ⟨s, e, hs⟩ := key T ([], d) h
  have e' : (standF T d).1 = s := by
    unfold standF
    rw [e, List.nil_append]
  rw [e']
  exact hs
/-! ### what is seen -/
theorem sawF_good {T : List Part} {s : List Int} {d : Dw} (hT : trainOk T) (hs : standOk T s) : ∀ n, standOk T (sawF T s d n).2.1 ∧ ∀ x ∈ (sawF T s d n).1, snOk T.length x ∧ snSm x
  | 0 => ⟨hs, fun x h => by cases h⟩
  | n + 1 => by
    obtain ⟨i1, i2⟩ := sawF_good hT hs (d := d) n
    have hl2 := hT.2.1
    have hl1 : 0 < T.length := List.length_pos_iff.mpr hT.1
    rw [sawF]
    generalize sawF T s d n = a at i1 i2
    have hw := wayF_ok (nextF (nextF a.2.2).2).1
    have hi := idxF_lt a.2.2 hl1
    have hu := pushN_unit (i := idxF T.length a.2.2) hT.2.2 i1 hw
    refine ⟨pushN_ok hT.2.2 i1 hw (by decide), fun x hx => ?_⟩
    rcases List.mem_append.mp hx with q | q
    · exact i2 x q
    · rw [List.mem_singleton] at q
      subst q
      exact ⟨⟨Int.natCast_nonneg _, Int.ofNat_lt.mpr hi, hw, hu⟩, sm_nat (Int.natCast_nonneg _) (by show ((idxF T.length a.2.2 : Nat) : Int) ≤ 100000; omega), hw, hu⟩
theorem seenF_good {T : List Part} {s : List Int} {d : Dw} {many : Int} (hT : trainOk T) (hs : standOk T s) (hm : 0 < many) : (∀ x ∈ (seenF T s many d).1, snOk T.length x ∧ snSm x) ∧ ((seenF T s many d).1.length : Int) < many := by
  have h1 := Int.emod_nonneg (nextF d).1 (show many ≠ 0 by omega)
  have h2 := Int.emod_lt_of_pos (nextF d).1 hm
  refine ⟨(sawF_good hT hs _).2, ?_⟩
  unfold seenF
  rw [sawF_num]
  omega
theorem seenF_ok {m : Nat} {T : List Part} {s : List Int} {d : Dw} {many : Int} (h : dwOk m d) (hm : 0 < many) : dwOk (m + 1 + 2 * many.toNat) (seenF T s many d).2.2 := by
  have h1 := Int.emod_nonneg (nextF d).1 (show many ≠ 0 by omega)
  have h2 := Int.emod_lt_of_pos (nextF d).1 hm
  exact dwOk.mono (sawF_ok (nextF_ok h) _) (by omega)
/-! ### keys -/
def rawKeysF (n : Nat) (d : Dw) : List Int × Dw := keepF dieF ((List.range n).map fun i => ((i : Nat) : Int)) d
def turnF (k : Int) (l : List Int) : List Int := if k = 1 then l else l.reverse
theorem keys_good {T : List Part} {d : Dw} (k : Int) : keysOk T (turnF k (rawKeysF T.length d).1) := by
  have hs := keepF_sub (xs := (List.range T.length).map fun i => ((i : Nat) : Int)) d
  have h1 : (rawKeysF T.length d).1.Nodup := by
    refine List.Nodup.sublist hs ?_
    unfold List.Nodup
    rw [List.pairwise_map]
    exact List.nodup_range.imp fun h q => h (Int.ofNat.inj q)
  have h2 : ∀ x ∈ (rawKeysF T.length d).1, 0 ≤ x ∧ x < T.length := fun x hx => by
    obtain ⟨i, hi, rfl⟩ := List.mem_map.mp (hs.subset hx)
    have := List.mem_range.mp hi
    omega
  unfold turnF
  split
  · exact ⟨h1, h2⟩
  · exact ⟨(List.reverse_perm _).nodup_iff.mpr h1, fun x hx => h2 x (List.mem_reverse.mp hx)⟩
theorem rawKeysF_ok {m n : Nat} {d : Dw} (h : dwOk m d) : dwOk (m + n) (rawKeysF n d).2 := by
  have := keepF_ok (xs := (List.range n).map fun i => ((i : Nat) : Int)) h
  rw [List.length_map, List.length_range] at this
  exact this
/-! ### rows -/
def rowF (m : Nat) (d : Dw) : Nat → List Stp × Dw
  | 0 => ([], d)
  | n + 1 => ((rowF m d n).1 ++ [(((idxF m (rowF m d n).2 : Nat) : Int), wayF (nextF (nextF (rowF m d n).2).2).1, (nextF (nextF (nextF (rowF m d n).2).2).2).1 % 10 ^ 6)], (nextF (nextF (nextF (rowF m d n).2).2).2).2)
theorem rowF_ok {m : Nat} {k : Nat} {d : Dw} (h : dwOk m d) : ∀ n, dwOk (m + 3 * n) (rowF k d n).2
  | 0 => h
  | n + 1 => dwOk.mono (nextF_ok (nextF_ok (nextF_ok (rowF_ok h n)))) (by omega)
theorem rowF_len (m : Nat) (d : Dw) : ∀ n, (rowF m d n).1.length = n
  | 0 => rfl
  | n + 1 => by rw [rowF, List.length_append, rowF_len m d n]; rfl
theorem rowF_good {T : List Part} {d : Dw} (hT : trainOk T) : ∀ n, ∀ x ∈ (rowF T.length d n).1, deedOk T x ∧ stepSm x
  | 0, x, h => by cases h
  | n + 1, x, h => by
    have hl2 := hT.2.1
    have hl1 : 0 < T.length := List.length_pos_iff.mpr hT.1
    rw [rowF] at h
    rcases List.mem_append.mp h with q | q
    · exact rowF_good hT n x q
    · rw [List.mem_singleton] at q
      subst q
      have hi := idxF_lt (rowF T.length d n).2 hl1
      have hw := wayF_ok (nextF (nextF (rowF T.length d n).2).2).1
      have h0 := Int.emod_nonneg (nextF (nextF (nextF (rowF T.length d n).2).2).2).1 (show (10 : Int) ^ 6 ≠ 0 by decide)
      have h1 := Int.emod_lt_of_pos (nextF (nextF (nextF (rowF T.length d n).2).2).2).1 (show (0 : Int) < 10 ^ 6 by decide)
      have e6 : (10 : Int) ^ 6 = 1000000 := by decide
      have s3 : sm ((nextF (nextF (nextF (rowF T.length d n).2).2).2).1 % 10 ^ 6) := ⟨h0, by omega⟩
      exact ⟨⟨Int.natCast_nonneg _, Int.ofNat_lt.mpr hi, hw, h0⟩, sm_nat (Int.natCast_nonneg _) (by show ((idxF T.length (rowF T.length d n).2 : Nat) : Int) ≤ 100000; omega), hw, s3⟩
/-! ### shows -/
def toSh (x : Sn) : Sh := (x.2.1, x.2.2)
theorem toSh_good {n : Nat} {l : List Sn} (h : ∀ x ∈ l, snOk n x ∧ snSm x) : (∀ x ∈ l.map toSh, shOk x) ∧ ∀ x ∈ l.map toSh, shSm x := by
  constructor
  · intro x hx
    obtain ⟨y, hy, rfl⟩ := List.mem_map.mp hx
    exact (h y hy).2.2
  · intro x hx
    obtain ⟨y, hy, rfl⟩ := List.mem_map.mp hx
    exact (h y hy).2.2
/-! ### the answers are small -/
theorem alike_good {T U : List Part} {s : Pr} (hT : trainOk T) (hU : trainOk U) (hs : prOk T U s) (hf : pfew T U) : PaperOk T U s (alikeA T U s) ∧ ansSm (alikeA T U s) := by
  rcases alike_ok hT.2.2 hU.2.2 hs hf with ⟨ws, e, h⟩ | ⟨ps, e, h⟩
  · rw [e]
    refine ⟨h, h.1, fun q => ?_, Nat.le_trans h.2.1 (by decide)⟩
    obtain ⟨q1, w, e2, _⟩ := h.2.2
    rw [q] at e2
    simp at e2
  · rw [e]
    exact ⟨h, fun p hp => ⟨stSm_of hT (h.2.2.1 p hp).1, stSm_of hU (h.2.2.1 p hp).2⟩, Nat.le_trans h.2.2.2.1 (by decide)⟩
theorem small_sm {ws : List Int} {xs : List Sh} {a : Ans} (hl : ws.length = xs.length) (hxl : xs.length ≤ 30) (h : SmallOk ws xs a) : ansSm a := by
  have two : ∀ {pl : Int → Int} {a b : Nat}, TwoOk pl xs (passed ws) a b → sm (a : Int) ∧ sm (b : Int) := fun {pl a b} q => by
    have h1 := q.1
    have h2 := q.2.1
    have h3 : (passed ws).length = ws.length := passF_len _ _
    exact ⟨sm_nat (Int.natCast_nonneg _) (by omega), sm_nat (Int.natCast_nonneg _) (by omega)⟩
  cases a with
  | none_ j k =>
    obtain ⟨a, b, rfl, rfl, q⟩ := h
    rcases q with ⟨rfl, w, x, q1, _⟩ | q
    · have := (List.getElem?_eq_some_iff.mp q1).1
      exact ⟨sm_nat (Int.natCast_nonneg _) (by omega), sm_nat (Int.natCast_nonneg _) (by omega)⟩
    · exact two q
  | wheel z ms bars =>
    obtain ⟨h1, h2, h3, h4, h5, h6⟩ := h
    refine ⟨⟨h1, h2, h3⟩, fun b hb => ?_, by omega⟩
    obtain ⟨k, hk⟩ := List.mem_iff_getElem?.mp hb
    obtain ⟨a, c, rfl, q⟩ := h6 k b hk
    exact two q
  | alike ps => exact h.elim
  | apart ps => exact h.elim
  | never ps => exact h.elim
  | row deed p ns => exact h.elim
end Ct

-- DL21
set_option Elab.async false
set_option linter.all false
set_option maxRecDepth 100000
set_option maxHeartbeats 1000000
/-! DL21: a list by a step of 1 or -1; the law's own walk. -/
namespace Ct
open PySem PySem.Spec PyProof.Rows L2
/-! ### xs[::k] -/
theorem pick_one (items : Array Value) : slicePick items none none (some 1) = items.toList.toArray := by
  unfold slicePick
  have hb : sliceBounds none none (some 1) items.size = (0, (items.size : Int), 1) := by simp [sliceBounds]
  have hr : sliceRange 0 (items.size : Int) 1 = List.range items.size := by
    unfold sliceRange
    by_cases h : (0 : Int) < items.size
    · have e : ((items.size : Int) - 0 + 1 - 1) / 1 = (items.size : Int) := by rw [Int.ediv_one]; omega
      simp only [show (1 : Int) > 0 by decide, if_true, h, e, Int.toNat_natCast]
      refine (List.map_congr_left fun k hk => ?_).trans (List.map_id _)
      show (0 + 1 * (k : Int)).toNat = k
      omega
    · have e : items.size = 0 := by omega
      rw [e]
      simp
  rw [hb]
  show ((sliceRange 0 (items.size : Int) 1).filterMap (items[·]?)).toArray = _
  rw [hr, PySem.W.krv_all]
def turnV {α : Type} (k : Int) (l : List α) : List α := if k = 1 then l else l.reverse
def tStp (K : PySem.W.Frag) (te : TE) (ts : TO) : TE := fun σ H Q => te σ H fun x H1 => ∃ a, x = .ref a ∧ ts σ H1 fun o H2 => ∃ xs k, o = some k ∧ SqL K H2 a xs ∧ (k = 1 ∨ k = -1) ∧ ∀ p, H2 p = none → Q (.ref p) (upd H2 p (.lst (turnV k xs)))
section
variable {X : Cx}
theorem pe_stepL {e st : Expr} {te : TE} {ts : TO} {p3 pos : Pos} (he : PE X e te) (hst : PO X (some st) ts) : PE X (.Subscript e (.Slice none none (some st) p3) pos) (tStp X.K te ts) := by
  refine ⟨fun pins s σ H Q I h => ?_⟩
  refine Subscript_ (thn (he.run pins s σ H _ I h) fun v s1 ⟨x, H1, I1, r1, q1⟩ => ?_)
  obtain ⟨a, ex, q⟩ := q1
  subst ex
  cases r1
  refine wpAny_Slice (thn (po_none.run pins s1 σ H1 (fun o H2 => o = none ∧ H2 = H1) I1 ⟨rfl, rfl⟩) fun vl s2 ⟨l, H2, I2, pl, el, e2⟩ => ?_)
  subst el e2
  refine thn (po_none.run pins s2 σ H2 (fun o H3 => o = none ∧ H3 = H2) I2 ⟨rfl, rfl⟩) fun vu s3 ⟨u, H3, I3, pu, eu, e3⟩ => ?_
  subst eu e3
  refine thn (hst.run pins s3 σ H3 _ I3 q) fun vs s4 ⟨o, H4, I4, ps, xs, k, eo, hx, hk, q⟩ => ?_
  subst eo
  have I5 : Inv X pins σ H4 { s4 with heap := s4.heap.push { cls := .type "slice", data := .fields #[vl, vu, vs] } } := I4.kept (t' := s4.toks) fun b ob q => Heap.get?_push_of_some _ q
  obtain ⟨its, r, ht, hz⟩ := I5.list hx
  have hlen := r.length
  show wpAny (model X.prog X.w) X.A (subscriptTail e (.Slice none none (some st) p3) (.ref a) (.ref s4.heap.objs.size)) (EP X pins σ Q) X.xe { s4 with heap := s4.heap.push { cls := .type "slice", data := .fields #[vl, vu, vs] } }
  refine tail_any (ops := [.ref a, .ref s4.heap.objs.size]) ht.isList.typeIs (PySem.slot_list_getitem.lookup) ?_ (by with_unfolding_all rfl)
  rcases hk with rfl | rfl
  · refine wpAny_getItem_list_slice ht.isList (Heap.IsSliceOf.new _ vl vu vs) pl pu ps (by decide) ?_ (by rw [List.size_toArray]; omega)
    rw [pick_one]
    refine ⟨.ref _, _, I5.laid (t' := s4.toks) (o := .lst xs) (fun b ob q => Heap.get?_push_of_some _ q) (Nat.le_refl _) ?_, rfl, q _ (I5.hok.fresh (Nat.le_refl _))⟩
    exact ⟨hz, _, 0, r, Heap.get?_push_size _ rfl⟩
  · refine wpAny_getItem_list_slice ht.isList (Heap.IsSliceOf.new _ vl vu vs) pl pu ps (by decide) ?_ (by rw [List.size_toArray]; omega)
    rw [PySem.W.krv_pick]
    refine ⟨.ref _, _, I5.laid (t' := s4.toks) (o := .lst xs.reverse) (fun b ob q => Heap.get?_push_of_some _ q) (Nat.le_refl _) ?_, rfl, q _ (I5.hok.fresh (Nat.le_refl _))⟩
    exact ⟨by rw [List.length_reverse]; exact hz, _, 0, r.reverse, Heap.get?_push_size _ rfl⟩
end
theorem dt_rev {G : Hp} {xs : List V} : ∀ {ds : List PyData}, DtAll G xs ds → DtAll G xs.reverse ds.reverse := by
  induction xs with
  | nil => intro ds h; cases h; exact .nil
  | cons v xs ih =>
    intro ds h
    cases h with
    | cons h1 h2 =>
      rw [List.reverse_cons, List.reverse_cons]
      exact (ih h2).append (.cons h1 .nil)
theorem dt_turn {G : Hp} {xs : List V} {ds : List PyData} (k : Int) (h : DtAll G xs ds) : DtAll G (turnV k xs) (turnV k ds) := by
  unfold turnV
  split
  · exact h
  · exact dt_rev h
section
variable {X : Cx} {a st : Expr} {δ δ1 δ2 : List Sl} {pos : Pos}
theorem pd_stepL {k : Int} {ds : List PyData} {p3 : Pos} (ha : PED X δ a (D (.list ds)) δ1) (hs : PED X δ1 st (D (.int k)) δ2) (hk : k = 1 ∨ k = -1) : PED X δ (.Subscript a (.Slice none none (some st) p3) pos) (D (.list (turnV k ds))) δ2 := by
  refine (pe_stepL ha (pod_some hs)).imp fun σ H Q ⟨G0, H0, G, S, q⟩ => ⟨G0, H0, G, S, fun x G1 H1 g1 S1 rx => ?_⟩
  obtain ⟨p, xs, rfl, h1, h2⟩ := dt_lst rx
  refine ⟨p, rfl, G0, H0, G1, S1, fun G2 H2 g2 S2 => ⟨xs, k, rfl, .of (S2.gh _ _ (g2 _ _ h1)), hk, Ext.lst S2.gh (fun v G4 H4 e4 rv => q v G4 H4 (same_trans g1 (same_trans g2 e4.gg)) (S2.ext e4) rv) (dt_turn k (DtAll.up h2 g2))⟩⟩
end
/-! ### the law's walk -/
def scrD (ns : List Int) : List PyData := cutD (ns.map .int) none (some 4) ++ [.int 0]
theorem scrD_int {ns : List Int} {i : Nat} {d : PyData} (h : (scrD ns)[i]? = some d) : ∃ c : Int, d = .int c := by
  rcases List.mem_append.mp (List.mem_of_getElem? h) with q | q
  · unfold cutD at q
    obtain ⟨c, _, rfl⟩ := List.mem_map.mp (List.mem_of_mem_drop (List.mem_of_mem_take q))
    exact ⟨c, rfl⟩
  · rw [List.mem_singleton] at q
    exact ⟨0, q⟩
section
variable {X : Cx} {δ : List Sl} {ns : List Int} {sa : Addr}
theorem pe_script {x : Str} {k : Nat} {p1 p2 p3 p4 pos : Pos} {b : Expr} (hn : ns.length ≤ 1000) (h0 : δ[0]? = some (.fn sa)) (hb : PED X δ b (D (.list [.int 0])) δ) (hN : X.N[0]? = some x := by rfl)
    (hv : Vis X.env.scope x := by first | exact Or.inl rfl | exact Or.inr (Or.inl rfl) | exact Or.inr (Or.inr rfl)) (hdb : (x == ("__debug__" : Str)) = false := by decide) (hcd : (x == ("__classdict__" : Str)) = false := by decide) :
    PE X (.BinOp (.Subscript (.Name x p1) (.Slice none (some (.Constant (.int 4) k p4)) none p2) p3) .Add b pos) (fun σ H Q => SqL X.K H sa (ns.map V.int) ∧ tD X.prog X.w δ (D (.list (scrD ns))) δ σ H Q) := by
  refine (pe_op op_cat (pe_slice sl_list (pv 0 hN hv hdb hcd) po_none (po_some pe_int)) hb).imp fun σ H Q ⟨hs, G0, H0, G, S, q⟩ => ?_
  have e1 : σ[0]? = some (some (.ref sa)) := by
    have h := S.sl 0 _ h0
    cases e : σ[0]? with
    | none => rw [e] at h; exact False.elim h
    | some o =>
      rw [e] at h
      cases o with
      | none => exact False.elim h
      | some v => cases (show v = .ref sa from h); rfl
  refine ⟨.ref sa, e1, 4, rfl, sa, ns.map V.int, rfl, hs, fun p hp => ?_⟩
  have x := Ext.new (o := .lst (cutV (ns.map V.int) none (some 4))) S.gh hp
  have hl := cutV_length (ns.map V.int) none (some 4)
  rw [List.length_map] at hl
  refine ⟨G0, H0, _, S.ext x, fun v G2 H2 g2 S2 rv => ?_⟩
  obtain ⟨a2, vs, rfl, h3, h4⟩ := dt_lst rv
  have hsz : sizeLine = 2 ^ 24 := rfl
  refine ⟨p, a2, cutV (ns.map V.int) none (some 4), vs, rfl, rfl, S2.gh _ _ (g2 _ _ upd_same), S2.gh _ _ h3, by rw [h4.length]; show _ + 1 ≤ _; omega, Ext.lst S2.gh (fun v G4 H4 e4 rv => q v G4 H4 (same_trans x.gg (same_trans g2 e4.gg)) (S2.ext e4) rv) ((cut_dt (dt_ints ns) none (some 4)).append h4)⟩
theorem pid_listS {tg e : Expr} {items : List PyData} {δ1 : List Sl} {W : Hp → Prop} (h : PE X e (fun σ H Q => W H ∧ tD X.prog X.w δ (D (.list items)) δ1 σ H Q)) : PI X tg e (fun σ H R => W H ∧ tDI X.prog X.w δ items δ1 σ H R) :=
  (pi_list h).imp fun σ H R ⟨hw, G0, H0, G, S, q⟩ => ⟨hw, G0, H0, G, S, fun v G1 H1 g1 S1 rv => by
    obtain ⟨p, xs, rfl, h1, h2⟩ := dt_lst rv
    refine ⟨p, rfl, ⟨xs, .of (S1.gh _ _ h1)⟩, q _ G1 H1 g1 S1 ⟨fun i d H hd g => ?_, fun i d H x H' hd g y => ?_, fun H g => ⟨xs, .of (g _ _ h1), by rw [h2.length]; exact Nat.le_refl _⟩⟩⟩
    · obtain ⟨v, e1, _⟩ := h2.get hd
      exact ⟨xs, v, .of (g _ _ h1), e1⟩
    · obtain ⟨rfl, f⟩ := y
      obtain ⟨v, e1, e2⟩ := h2.get hd
      rw [f xs (.of (g _ _ h1))] at e1; cases e1
      exact .inl ⟨rfl, e2⟩⟩
/-- for target in the script's part -/
theorem pbd_forS {tg e : Expr} {body rest : List Stmt} {bs : List (List Stmt)} {o : Out} {items : List PyData} {δ1 : List Sl} {pos : Pos} {W : Hp → Prop} (hc : X.calm = true) (hi : PE X e (fun σ H Q => W H ∧ tD X.prog X.w δ (D (.list items)) δ1 σ H Q)) (I : Nat → List Sl → Prop) (h0 : I 0 δ1)
    (turn : ∀ (i : Nat) (d : PyData) (δa : List Sl), items[i]? = some d → I i δa → ∃ δb o', PGD X δa tg d δb ∧ PBD X δb [body] o' ∧ match o' with
      | .nx δ' => I (i + 1) δ'
      | .ct δ' => I (i + 1) δ'
      | .rt r δ' => o = .rt r δ'
      | .bk δ' => PBD X δ' (rest :: bs) o)
    (done : ∀ δa : List Sl, I items.length δa → PBD X δa (rest :: bs) o) (hp : PassesOwn (model X.prog X.w) X.A X.env X.xe := by exact PassesOwn.never)
    (hs : ∀ x, foldedSetIterable e X.env x = pure x := by intro _; rfl) : PB X ((.For tg e body [] pos :: rest) :: bs) (fun E σ H => W H ∧ tDS X.prog X.w δ o E σ H) := by
  refine (pb_cons (ps_for hp hc (pid_listS hi) any_pg any_pss hs)).imp fun E σ H ⟨hw, G0, H0, G, S, q⟩ => ⟨hw, G0, H0, G, S, fun J G1 H1 g1 S1 hJ => ?_⟩
  refine ⟨fun i m σ H => m = items.length - i ∧ i ≤ items.length ∧ ∃ δa G2, I i δa ∧ Same G1 G2 ∧ StOk X.prog X.w G0 H0 δa σ G2 H, ⟨items.length, by omega, Nat.zero_le _, δ1, G1, h0, same_refl _, S1⟩, ?_⟩
  rintro i m σ H ⟨rfl, hil, δa, G2, hI, g2, S2⟩
  by_cases hlt : i < items.length
  · have hd : items[i]? = some items[i] := List.getElem?_eq_getElem hlt
    obtain ⟨δb, o', hg, hb, ho⟩ := turn i items[i] δa hd hI
    refine .inr ⟨hJ.go i _ H hd (same_trans g2 S2.gh), fun σ' H' => ∃ δ' G3, I (i + 1) δ' ∧ Same G1 G3 ∧ StOk X.prog X.w G0 H0 δ' σ' G3 H', fun σ' H' ⟨δ', G3, w1, w2, w3⟩ => ⟨items.length - (i + 1), by omega, rfl, hlt, δ', G3, w1, w2, w3⟩, fun x H' y => ?_⟩
    obtain ⟨G3, g3, S3, r3⟩ := S2.turn hJ g2 hd y
    have gg : Same G G3 := same_trans g1 (same_trans g2 g3)
    refine ⟨_, hg, G0, H0, G3, S3, r3, fun σ4 G4 H4 g4 S4 => ⟨_, hb.pss, G0, H0, G4, S4, ?_⟩⟩
    have g14 : Same G1 G4 := same_trans (same_trans g2 g3) g4
    cases o' with
    | nx δ' => exact fun σ5 G5 H5 g5 S5 => ⟨δ', G5, ho, same_trans g14 g5, S5⟩
    | ct δ' => exact fun σ5 G5 H5 g5 S5 => ⟨δ', G5, ho, same_trans g14 g5, S5⟩
    | rt r δ' =>
      subst ho
      exact fun v σ5 G5 H5 g5 S5 r5 => q v σ5 G5 H5 (same_trans gg (same_trans g4 g5)) S5 r5
    | bk δ' => exact fun σ5 G5 H5 g5 S5 => ⟨_, ho, G0, H0, G5, S5, q.up (same_trans gg (same_trans g4 g5))⟩
  · have e : i = items.length := by omega
    subst e
    exact .inl ⟨hJ.st H (same_trans g2 S2.gh), _, done δa hI, G0, H0, G2, S2, q.up (same_trans g1 g2)⟩
end
/-! ### the law's promise -/
def PSpS (K : PySem.W.Frag) : Sp := fun vs H Q _ => ∃ (a : Addr) (ns : List Int), vs = [.ref a] ∧ ns.length ≤ 63 ∧ SqL K H a (ns.map V.int) ∧ ∀ H', Q (.bl true) H'
section
variable {P : Program} {w : World} {K : PySem.W.Frag} {mg : Str → Option Value} {base : Heap}
structure HasS (P : Program) (w : World) (K : PySem.W.Frag) (mg : Str → Option Value) (base : Heap) (n : Nat) (x : Str) (fd : FuncData) (f : Addr) : Prop where
  b : ∀ (s : Shared) (u : Value), BindsTo s fd ⟨[u], []⟩ [(x, u)]
  ok : FnFree P w K mg base n f fd [x] (PSpS K)
theorem has_ofS {x name : Str} {n : Nat} {st : Stmt} {N : List Str} {f : Addr} {fd : FuncData} (F : FnP K name st f fd) (S : FnScope N [x] (defScope st))
    (hb : ∀ (kV doc pm : Value) (an : Option Addr) (cdv ct : Value) (us : List Value), us.length = 1 → bindArgs (PySem.W.fnOf name name (defArgs st) (defBody st) (defScope st) .none kV doc pm an cdv ct) ⟨us, []⟩ = pure ([x].zip us))
    (body : ∀ (cdv : Value) (A : Around) (outer : List Env) (s : Shared) (H : Hp) (E : XK) (a : Addr) (ns : List Int), Free A → Room n (A.deeper (PyProof.Rows.envOfC name (defScope st) s.heap.objs.size f cdv)) → ns.length ≤ 63 →
      PB (Xf P w K mg base N name st f cdv A outer s H E) [defBody st] (fun E' σ H' => SqL K H' a (ns.map V.int) ∧ tDS P w (st0 N [.fn a]) (.rt (.bool true) []) E' σ H')) : FnFree P w K mg base (n + 1) f fd [x] (PSpS K) := by
  obtain ⟨oc, od, dV, kV, doc, pm, an, cdv, ct, osl, rfl, lk, hcd, dv, kw⟩ := F.ex
  refine fnFree_of lk hcd S ?_ ?_
  · rintro vs H Q E ⟨a, ns, rfl, _⟩
    rfl
  · rintro A outer s H vs Q E fr hr ⟨a, ns, rfl, hn, hs, q⟩
    have hl : [V.ref a].length ≤ N.length := by
      have h2 := congrArg List.length S.pre
      rw [List.length_take] at h2
      show 1 ≤ _
      simp only [List.length_cons, List.length_nil] at h2
      omega
    have none_ : Same (fun _ => none : Hp) H := fun b u z => by cases (show (none : Option HO) = some u from z)
    refine ⟨_, PSs.nox (body cdv A outer s H E a ns fr hr hn).pss, hs, (fun _ => none), H, (fun _ => none), stok_start none_ (.cons rfl .nil) hl, ?_⟩
    intro v σ G' H' g' S' r'
    cases r'
    exact q H'
end
end Ct

-- W30
set_option Elab.async false
set_option linter.all false
set_option maxRecDepth 100000
set_option maxHeartbeats 20000000
/-! W30: the law (printed by gen2.py from W30.src). -/
namespace Ct
open PySem PySem.Spec L2 SX
theorem trainF_ok {m : Nat} {d : Dw} (h : dwOk m d) : dwOk (m + 30) (trainF d).2 := by
  have h1 := Int.emod_lt_of_pos (nextF d).1 (show (0 : Int) < 3 by decide)
  exact dwOk.mono (partsF_ok (nextF_ok h) _) (by omega)
theorem drawsF_ok (c : Int) : dwOk 0 (drawsF c) := by
  unfold drawsF
  split
  · exact ⟨Int.le_refl 0, Int.le_refl 0⟩
  · exact ⟨Int.le_refl 0, Int.le_refl 0⟩
theorem wheel_ok : trainOk [Part.wheel 5 [1, 3]] := by
  refine ⟨by simp, by decide, fun p hp => ?_⟩
  rw [List.mem_singleton] at hp
  subst hp
  refine ⟨by decide, by decide, fun m hm => ?_, by decide⟩
  simp only [List.mem_cons, List.not_mem_nil, or_false] at hm
  omega
theorem ans_non (a : Ans) : isNon (dAns a) = false := by cases a <;> rfl
theorem wk_all {δ : List Sl} {s : Sl} (n : Nat) (h : δ[0]? = some s) : Wk δ (s :: List.replicate n .any) := fun i t e => by
  cases i with
  | zero => cases e; exact .inr h
  | succ i =>
    rw [List.getElem?_cons_succ, List.getElem?_replicate] at e
    split at e
    · cases e; exact .inl rfl
    · cases e
theorem turn_keys (k : Int) (l : List Int) : PyData.list (turnV k (l.map PyData.int)) = dKeys (turnF k l) := by
  unfold turnV turnF
  split
  · rfl
  · rw [← List.map_reverse]
section
variable {P : Program} {w : World} {K : PySem.W.Frag} {mg : Str → Option Value} {base : Heap}
/-! law -/
theorem sc_law : FnScope ["_law_script", "_law_cell", "_law_draws_here", "_law_train_here", "_law_other", "_law_stand_here", "_law_goal", "_law_there", "_law_keys", "_law_k", "_law_row", "_law_wheel", "_law_shows", "_law_i", "_law_way", "_law_shown", "_law_seen_here", "_law_told", "_law_again"] ["_law_script"] (defScope s_law) := ⟨rfl, rfl, rfl, by decide +kernel, rfl, by decide +kernel, by decide +kernel⟩
theorem ok_law {f f_law_draws f_law_train f_law_stand f_law_seen f_law_back f_read_shows f_trains_alike f_show_shows f_smallest f_smallest_behind f_law_next f_law_row_well f_law_lists_well f_shows_alike f_is_smallest f_is_smallest_behind : Addr} {fd : FuncData} (F : FnP K "law" s_law f fd) (B : Frs mg) (h_law_draws : HasN P w K mg base 1 "_law_draws" ["_law_cell"] p_law_draws f_law_draws) (h_law_train : HasL P w K mg base 2 "_law_train" ["_law_draws_here"] p_law_train f_law_train) (h_law_stand : HasL P w K mg base 2 "_law_stand" ["_law_draws_here", "_law_train_here"] p_law_stand f_law_stand) (h_law_seen : HasL P w K mg base 5 "_law_seen" ["_law_draws_here", "_law_train_here", "_law_stand_here", "_law_many"] p_law_seen f_law_seen) (h_law_back : HasF P w K mg base 8 "_law_back" ["_law_told"] p_law_back f_law_back) (h_read_shows : Has P w K mg base 3 "read_shows" ["text"] p_read_shows f_read_shows) (h_trains_alike : Has P w K mg base 6 "trains_alike" ["train", "stand", "other", "there"] p_trains_alike f_trains_alike) (h_show_shows : Has P w K mg base 2 "show_shows" ["shows"] p_show_shows f_show_shows) (h_smallest : Has P w K mg base 4 "smallest" ["shows"] p_smallest f_smallest) (h_smallest_behind : Has P w K mg base 6 "smallest_behind" ["train", "stand", "shows"] p_smallest_behind f_smallest_behind) (h_law_next : HasL P w K mg base 1 "_law_next" ["_law_draws_here"] p_law_next f_law_next) (h_law_row_well : HasF P w K mg base 9 "_law_row_well" ["_law_train_here", "_law_stand_here", "_law_goal", "_law_keys"] p_law_row_well f_law_row_well) (h_law_lists_well : Has P w K mg base 9 "_law_lists_well" ["_law_train_here", "_law_stand_here", "_law_row", "_law_seen_here"] p_law_lists_well f_law_lists_well) (h_shows_alike : Has P w K mg base 7 "shows_alike" ["train", "stand", "other", "there", "thing"] p_shows_alike f_shows_alike) (h_is_smallest : Has P w K mg base 5 "is_smallest" ["shows", "thing"] p_is_smallest f_is_smallest) (h_is_smallest_behind : Has P w K mg base 6 "is_smallest_behind" ["train", "stand", "shows", "thing"] p_is_smallest_behind f_is_smallest_behind) : FnFree P w K mg base 10 f fd ["_law_script"] (PSpS K) := by
  refine has_ofS F sc_law (fun _ _ _ _ _ _ us hl => match us, hl with | [_], _ => rfl) fun cdv A outer s H E sa ns fr hr hn => ?_
  have hu := hr.u100
  have hsz : sizeLine = 2 ^ 24 := rfl
  refine pbd_forS rfl (pe_script (by omega) rfl (pd_lst (ps := [_]) (pad_cons pd_int pad_nil))) (fun k δ => δ = [.fn sa, .any, .any, .any, .any, .any, .any, .any, .any, .any, .any, .any, .any, .any, .any, .any, .any, .any, .any]) rfl (fun k it δa hit hI => ?_) (fun δa hI => ?_)
  · subst hI
    obtain ⟨c, rfl⟩ := scrD_int hit
    clear hit
    have o0 := drawsF_ok c
    obtain ⟨d0, e0⟩ : ∃ d, drawsF c = d := ⟨_, rfl⟩
    rw [e0] at o0
    have g1 := trainF_good d0
    have o1 := trainF_ok o0
    obtain ⟨⟨T, d1⟩, e1⟩ : ∃ a, trainF d0 = a := ⟨_, rfl⟩
    rw [e1] at g1 o1
    have g2 := trainF_good d1
    have o2 := trainF_ok o1
    obtain ⟨⟨U, d2⟩, e2⟩ : ∃ a, trainF d1 = a := ⟨_, rfl⟩
    rw [e2] at g2 o2
    dsimp only at g1 o1 g2 o2
    have hT := g1.ok
    have hU := g2.ok
    have lT := g1.small
    have lU := g2.small
    have nT : 0 < T.length := List.length_pos_iff.mpr hT.1
    have hs := standF_good d2 hT.2.2
    have o3 := standF_ok o2 T
    obtain ⟨⟨s, d3⟩, e3⟩ : ∃ a, standF T d2 = a := ⟨_, rfl⟩
    rw [e3] at hs o3
    have hg := standF_good d3 hT.2.2
    have o4 := standF_ok o3 T
    obtain ⟨⟨g, d4⟩, e4⟩ : ∃ a, standF T d3 = a := ⟨_, rfl⟩
    rw [e4] at hg o4
    have ht := standF_good d4 hU.2.2
    have o5 := standF_ok o4 U
    obtain ⟨⟨t, d5⟩, e5⟩ : ∃ a, standF U d4 = a := ⟨_, rfl⟩
    rw [e5] at ht o5
    dsimp only at hs o3 hg o4 ht o5
    have hp : prOk T U (s, t) := ⟨hs, ht⟩
    have hpf := g1.pfew g2
    have o6 := rawKeysF_ok (n := T.length) o5
    have hk := keys_good (T := T) (d := d5) (wayF (nextF (rawKeysF T.length d5).2).1)
    have o7 := nextF_ok o6
    have o8 := nextF_ok o7
    refine ⟨_, .nx [.fn sa, .any, .any, .any, .any, .any, .any, .any, .any, .any, .any, .any, .any, .any, .any, .any, .any, .any, .any], (pgd_name 1 sc_law.nd), ?_, rfl⟩
    refine pbd_own 2 sc_law.nd (ds := dDw d0) (pn_call h_law_draws (hr.mono (by decide)) (pad_cons (pd_var 1 rfl) pad_nil) ⟨c, rfl, by rw [e0]⟩) ?_
    refine pbd_set 3 sc_law.nd (s := D (dTrain T)) (pd_callO own_lst 2 h_law_train (hr.mono (by decide)) rfl pad_nil rfl ⟨d0, rfl, dwOk.mono o0 (by omega), rfl, by rw [e1], (show dDw d1 = dDw (trainF d0).2 by rw [e1])⟩) ?_
    refine pbd_set 4 sc_law.nd (s := D (dTrain U)) (pd_callO own_lst 2 h_law_train (hr.mono (by decide)) rfl pad_nil rfl ⟨d1, rfl, dwOk.mono o1 (by omega), rfl, by rw [e2], (show dDw d2 = dDw (trainF d1).2 by rw [e2])⟩) ?_
    refine pbd_set 5 sc_law.nd (s := D (dStand s)) (pd_callO own_lst 2 h_law_stand (hr.mono (by decide)) rfl (pad_cons (pd_var 3 rfl) pad_nil) rfl ⟨d2, T, rfl, dwOk.mono o2 (by omega), hT, rfl, by rw [e3], (show dDw d3 = dDw (standF T d2).2 by rw [e3])⟩) ?_
    refine pbd_set 6 sc_law.nd (s := D (dStand g)) (pd_callO own_lst 2 h_law_stand (hr.mono (by decide)) rfl (pad_cons (pd_var 3 rfl) pad_nil) rfl ⟨d3, T, rfl, dwOk.mono o3 (by omega), hT, rfl, by rw [e4], (show dDw d4 = dDw (standF T d3).2 by rw [e4])⟩) ?_
    refine pbd_set 7 sc_law.nd (s := D (dStand t)) (pd_callO own_lst 2 h_law_stand (hr.mono (by decide)) rfl (pad_cons (pd_var 4 rfl) pad_nil) rfl ⟨d4, U, rfl, dwOk.mono o4 (by omega), hU, rfl, by rw [e5], (show dDw d5 = dDw (standF U d4).2 by rw [e5])⟩) ?_
    refine pbd_set 8 sc_law.nd (δ1 := [.fn sa, D (.int c), .lst (dDw (nextF (rawKeysF T.length d5).2).2), D (dTrain T), D (dTrain U), D (dStand s), D (dStand g), D (dStand t), .any, .any, .any, .any, .any, .any, .any, .any, .any, .any, .any]) (s := D (dKeys (turnF (wayF (nextF (rawKeysF T.length d5).2).1) (rawKeysF T.length d5).1))) (PED.eq (pd_stepL (pd_lcW [("_law_k", 9)] ((List.range T.length).map fun i => ((i : Nat) : Int)) .int .int dieF (fun b => [.fn sa, D (.int c), .lst (dDw b), D (dTrain T), D (dTrain U), D (dStand s), D (dStand g), D (dStand t), .any, .any, .any, .any, .any, .any, .any, .any, .any, .any, .any]) d5 (fun i b => dwOk (69 + i) b) rfl sc_law.nd
      (PID.eq (pid_range1 B.range (pd_len B.len (pd_var 3 rfl) .lst) (by omega) (by rw [List.length_map]; omega)) ?_) (blkOk_by (N := ["_law_script", "_law_cell", "_law_draws_here", "_law_train_here", "_law_other", "_law_stand_here", "_law_goal", "_law_there", "_law_keys", "_law_k", "_law_row", "_law_wheel", "_law_shows", "_law_i", "_law_way", "_law_shown", "_law_seen_here", "_law_told", "_law_again"]) (own := [("_law_k", 9)]) (sc := defScope s_law) (by decide +kernel)) rfl (dwOk.mono o5 (by omega))
      (fun i x b hx hb => ⟨nextF_ok hb, [.fn sa, D (.int c), .lst (dDw b), D (dTrain T), D (dTrain U), D (dStand s), D (dStand g), D (dStand t), .any, D (.int x), .any, .any, .any, .any, .any, .any, .any, .any, .any], [.fn sa, D (.int c), .lst (dDw (dieF x b).2), D (dTrain T), D (dTrain U), D (dStand s), D (dStand g), D (dStand t), .any, D (.int x), .any, .any, .any, .any, .any, .any, .any, .any, .any], fun _ _ _ _ _ => pgw_name 9 sc_law.nd, fun _ _ _ _ _ => ptsd_one (ptd_cmp hu (pd_bin (pd_callO own_lst 2 h_law_next (hr.mono (by decide)) rfl pad_nil rfl ⟨b, rfl, dwOk.mono hb ?_, rfl, rfl, rfl⟩) pd_int (.modI (by omega))) pd_int .gt), fun _ _ _ _ _ => pd_var 9 rfl, rfl⟩) (small_size ?_) (fun _ => rfl)) (pd_ix (pd_lst (ps := [_, _]) (pad_cons pd_int (pad_cons (pd_bin pd_int pd_int .subI) pad_nil))) (pd_bin (pd_callO own_lst 2 h_law_next (hr.mono (by decide)) rfl pad_nil rfl ⟨(rawKeysF T.length d5).2, rfl, dwOk.mono o6 (by omega), rfl, rfl, rfl⟩) pd_int (.modI (by omega))) (.lst (way_at _))) (wayF_ok _)) (turn_keys _ _)) ?_
    · unfold upto
      rw [List.length_map, List.map_map]
      rw [Int.toNat_natCast]
      refine List.map_congr_left fun i _ => ?_
      show PyData.int (0 + (i : Int)) = .int i
      rw [Int.zero_add]
    · have hi := (List.getElem?_eq_some_iff.mp hx).1
      rw [List.length_map, List.length_range] at hi
      omega
    · rw [List.length_map, List.length_range]
      omega
    generalize hkeys : turnF (wayF (nextF (rawKeysF T.length d5).2).1) (rawKeysF T.length d5).1 = keys at hk
    obtain ⟨d7, e7⟩ : ∃ d, (nextF (rawKeysF T.length d5).2).2 = d := ⟨_, rfl⟩
    rw [e7] at o7 o8
    rw [e7]
    have h60 := Int.emod_nonneg (nextF d7).1 (show (6 : Int) ≠ 0 by decide)
    have h61 := Int.emod_lt_of_pos (nextF d7).1 (show (0 : Int) < 6 by decide)
    refine pbd_own 10 sc_law.nd (ds := []) (pn_lst (ps := []) pad_nil) ?_
    refine pbd_for rfl (pid_range1 B.range (pd_bin (pd_callO own_lst 2 h_law_next (hr.mono (by decide)) rfl pad_nil rfl ⟨d7, rfl, dwOk.mono o7 (by omega), rfl, rfl, rfl⟩) pd_int (.modI (by omega))) (by omega) (by omega)) (fun k δ => ∃ s9 : Sl, δ = [.fn sa, D (.int c), .lst (dDw (rowF T.length (nextF d7).2 k).2), D (dTrain T), D (dTrain U), D (dStand s), D (dStand g), D (dStand t), D (dKeys keys), s9, .lst ((rowF T.length (nextF d7).2 k).1.map (dStep true)), .any, .any, .any, .any, .any, .any, .any, .any]) ?_ (fun k it δa hit hI => ?_) (fun δa hI => ?_)
    · exact ⟨.any, rfl⟩
    · obtain ⟨s9, rfl⟩ := hI
      obtain ⟨hk1, rfl⟩ := upto_at hit
      have hok := rowF_ok (k := T.length) o8 k
      have hnum := rowF_len T.length (nextF d7).2 k
      refine ⟨_, .nx [.fn sa, D (.int c), .lst (dDw (rowF T.length (nextF d7).2 (k + 1)).2), D (dTrain T), D (dTrain U), D (dStand s), D (dStand g), D (dStand t), D (dKeys keys), .any, .lst ((rowF T.length (nextF d7).2 (k + 1)).1.map (dStep true)), .any, .any, .any, .any, .any, .any, .any, .any], (pgd_name 9 sc_law.nd), ?_, .any, rfl⟩
      rw [rowF]
      generalize rowF T.length (nextF d7).2 k = r at hok hnum
      obtain ⟨l, e⟩ := r
      dsimp only at hok hnum
      have hi := idxF_lt e nT
      refine pbd_append (d := dStep true (((idxF T.length e : Nat) : Int), wayF (nextF (nextF e).2).1, (nextF (nextF (nextF e).2).2).1 % 10 ^ 6)) 10 rfl (PED.eq (pd_tup (ps := [_, _, _]) (pad_cons (pd_bin (pd_callO own_lst 2 h_law_next (hr.mono (by decide)) rfl pad_nil rfl ⟨e, rfl, dwOk.mono hok (by omega), rfl, rfl, rfl⟩) (pd_len B.len (pd_var 3 rfl) .lst) (.modI (by rw [List.length_map]; omega))) (pad_cons (pd_ix (pd_lst (ps := [_, _]) (pad_cons pd_int (pad_cons (pd_bin pd_int pd_int .subI) pad_nil))) (pd_bin (pd_callO own_lst 2 h_law_next (hr.mono (by decide)) rfl pad_nil rfl ⟨(nextF e).2, rfl, dwOk.mono (nextF_ok hok) (by omega), rfl, rfl, rfl⟩) pd_int (.modI (by omega))) (.lst (way_at _))) (pad_cons (pd_bin (pd_callO own_lst 2 h_law_next (hr.mono (by decide)) rfl pad_nil rfl ⟨(nextF (nextF e).2).2, rfl, dwOk.mono (nextF_ok (nextF_ok hok)) (by omega), rfl, rfl, rfl⟩) (pd_pow pd_int pd_int ⟨by omega, by decide +kernel⟩) (.modI (by decide +kernel))) pad_nil)))) ?_) rfl (by rw [List.length_map]; show l.length < _; omega) ?_
      · rw [List.length_map]
        show PyData.tuple [.int ((nextF e).1 % (T.length : Int)), _, _] = PyData.tuple [.int ((idxF T.length e : Nat) : Int), _, _]
        rw [idxF_eq e nT]
        rfl
      refine pbd_wipe [9] (pbd_nx ?_)
      dsimp only
      rw [List.map_append]
      rfl
    · obtain ⟨s9, rfl⟩ := hI
      rw [upto_len]
      have hR := rowF_good (d := (nextF d7).2) hT ((nextF d7).1 % 6).toNat
      have hRl := rowF_len T.length (nextF d7).2 ((nextF d7).1 % 6).toNat
      have o9 := rowF_ok (k := T.length) o8 ((nextF d7).1 % 6).toNat
      obtain ⟨⟨R, d9⟩, e9⟩ : ∃ a, rowF T.length (nextF d7).2 ((nextF d7).1 % 6).toNat = a := ⟨_, rfl⟩
      rw [e9] at hR hRl o9
      rw [e9]
      dsimp only at hR hRl o9
      refine pbd_freeze 10 rfl ?_
      refine pbd_set 11 sc_law.nd (s := D (dPart (.wheel 5 [1, 3]))) (pd_tup (ps := [_, _, _]) (pad_cons pd_str (pad_cons pd_int (pad_cons (pd_tup (ps := [_, _]) (pad_cons pd_int (pad_cons pd_int pad_nil))) pad_nil)))) ?_
      have hsw : standOk [Part.wheel 5 [1, 3]] [0] := ⟨⟨by decide, by decide⟩, trivial⟩
      have h1 := seenF_good (d := d9) (many := 21) wheel_ok hsw (by decide)
      have o10 := seenF_ok (T := [Part.wheel 5 [1, 3]]) (s := [0]) (many := 21) o9 (by decide)
      obtain ⟨⟨l1, z1, d10⟩, e10⟩ : ∃ a, seenF [Part.wheel 5 [1, 3]] [0] 21 d9 = a := ⟨_, rfl⟩
      rw [e10] at h1 o10
      dsimp only at h1 o10
      have h2 := seenF_good (d := d10) (many := 9) hT hs (by decide)
      obtain ⟨⟨l2, z2, d11⟩, e11⟩ : ∃ a, seenF T s 9 d10 = a := ⟨_, rfl⟩
      rw [e11] at h2
      dsimp only at h2
      obtain ⟨h1, l1l⟩ := h1
      obtain ⟨h2, l2l⟩ := h2
      obtain ⟨hx1, hx2⟩ := toSh_good h1
      have hxl : (l1.map toSh).length ≤ 20 := by rw [List.length_map]; omega
      refine pbd_setLcA 12 [("_law_i", 13), ("_law_way", 14), ("_law_shown", 15)] l1 dSn (fun x => dSh (toSh x)) rfl sc_law.nd (pid_list (pd_callO own_lst 2 h_law_seen (hr.mono (by decide)) rfl (pad_cons (pd_lst (ps := [_]) (pad_cons (pd_var 11 rfl) pad_nil)) (pad_cons (pd_tup (ps := [_]) (pad_cons pd_int pad_nil)) (pad_cons pd_int pad_nil))) rfl ⟨d9, [.wheel 5 [1, 3]], [0], 21, rfl, dwOk.mono o9 (by omega), wheel_ok, rfl, by decide, by decide, rfl, by rw [e10], (show dDw d10 = dDw (seenF [Part.wheel 5 [1, 3]] [0] 21 d9).2.2 by rw [e10])⟩)) (blkOk_by (N := ["_law_script", "_law_cell", "_law_draws_here", "_law_train_here", "_law_other", "_law_stand_here", "_law_goal", "_law_there", "_law_keys", "_law_k", "_law_row", "_law_wheel", "_law_shows", "_law_i", "_law_way", "_law_shown", "_law_seen_here", "_law_told", "_law_again"]) (own := [("_law_i", 13), ("_law_way", 14), ("_law_shown", 15)]) (sc := defScope s_law) (by decide +kernel)) (fun x hx => ⟨_, fun _ _ _ _ _ => (pgw_tup rfl (pgws_cons (pgw_name 13 sc_law.nd) (pgws_cons (pgw_name 14 sc_law.nd) (pgws_cons (pgw_name 15 sc_law.nd) pgws_nil)))), fun _ _ _ _ _ => PED.eq (pd_tup (ps := [_, _]) (pad_cons (pd_var 14 rfl) (pad_cons (pd_var 15 rfl) pad_nil))) rfl, rfl⟩) (small_size (by omega)) ?_ (sw_true rfl rfl rfl (by decide +kernel))
      have em : l1.map (fun x => dSh (toSh x)) = (l1.map toSh).map dSh := by
        rw [List.map_map]
        rfl
      rw [em]
      generalize l1.map toSh = xs at hx1 hx2 hxl
      have o10' : dwOk 10000 d10 := dwOk.mono o10 (by omega)
      refine pbd_set 16 sc_law.nd (s := D (.list (l2.map dSn))) (pd_callO own_lst 2 h_law_seen (hr.mono (by decide)) rfl (pad_cons (pd_var 3 rfl) (pad_cons (pd_var 5 rfl) (pad_cons pd_int pad_nil))) rfl ⟨d10, T, s, 9, rfl, o10', hT, hs.len, by decide, by decide, rfl, by rw [e11], (show dDw d11 = dDw (seenF T s 9 d10).2.2 by rw [e11])⟩) ?_
      refine b_no (ptd_w (w_orF (ptd_not (ptd_val (pd_callF h_law_row_well fr (hr.mono (by decide)) (pad_cons (pd_var 3 rfl) (pad_cons (pd_var 5 rfl) (pad_cons (pd_var 6 rfl) (pad_cons (pd_var 8 rfl) pad_nil)))) ⟨T, s, g, keys, rfl, hT, hs, hg, hk, g1.cnt, g1.few, rfl⟩))) rfl (w_or1 (ptd_not (ptd_val (pd_call h_law_lists_well (hr.mono (by decide)) (pad_cons (pd_var 3 rfl) (pad_cons (pd_var 5 rfl) (pad_cons (pd_var 10 rfl) (pad_cons (pd_var 16 rfl) pad_nil)))) ⟨T, s, R, l2, rfl, hT, hs, st_small hT.2.2 hs, by omega, hR, by omega, h2, rfl⟩)))))) rfl ?_
      obtain ⟨a1, a2⟩ := alike_good hT hU hp hpf
      refine pbd_set 17 sc_law.nd (s := D (dAns (alikeA T U (s, t)))) (pd_callF h_law_back fr (hr.mono (by decide)) (pad_cons (pd_call h_trains_alike (hr.mono (by decide)) (pad_cons (pd_var 3 rfl) (pad_cons (pd_var 5 rfl) (pad_cons (pd_var 4 rfl) (pad_cons (pd_var 7 rfl) pad_nil)))) ⟨T, U, (s, t), rfl, hT, hU, hp, hpf, rfl⟩) pad_nil) ⟨_, rfl, a2, rfl⟩) ?_
      generalize alikeA T U (s, t) = A1 at a1 a2
      refine b_no (ptd_w (w_orF (ptd_cmp hu (pd_var 17 rfl) pd_non .isN) (ans_non A1) (w_or1 (ptd_not (ptd_val (pd_call h_shows_alike (hr.mono (by decide)) (pad_cons (pd_var 3 rfl) (pad_cons (pd_var 5 rfl) (pad_cons (pd_var 4 rfl) (pad_cons (pd_var 7 rfl) (pad_cons (pd_var 17 rfl) pad_nil))))) ⟨T, U, (s, t), A1, rfl, hT, hU, hp, a1, rfl⟩)))))) rfl ?_
      refine pbd_set 18 sc_law.nd (s := D (dShs xs)) (pd_call h_read_shows (hr.mono (by decide)) (pad_cons (pd_call h_show_shows (hr.mono (by decide)) (pad_cons (pd_var 12 rfl) pad_nil) ⟨xs, rfl, hx2, by omega, rfl⟩) pad_nil) ⟨xs, rfl, hx2, by omega, rfl⟩) ?_
      have b1 : SmallOk (xs.map (·.1)) xs (smallA (xs.map (·.1)) xs) := smallA_ok (by rw [List.length_map]) (by omega) (ways_unit hx1)
      have b2 := small_sm (by rw [List.length_map]) (by omega) b1
      refine pbd_set 17 sc_law.nd (s := D (dAns (smallA (xs.map (·.1)) xs))) (pd_callF h_law_back fr (hr.mono (by decide)) (pad_cons (pd_call h_smallest (hr.mono (by decide)) (pad_cons (pd_var 18 rfl) pad_nil) ⟨xs, rfl, hx1, by omega, rfl⟩) pad_nil) ⟨_, rfl, b2, rfl⟩) ?_
      generalize smallA (xs.map (·.1)) xs = A2 at b1 b2
      have qx : PyData.eqv (dShs xs) (dShs xs) = true := eqv_lay (lay_mapL lay_sh)
      haveI : Ly (dShs xs) 2 := ⟨lay_mapL lay_sh⟩
      refine b_no (ptd_w (w_orF (ptd_cmp hu (pd_var 18 rfl) (pd_var 12 rfl) (.ne Ly.shp Ly.shp)) (by rw [qx]; rfl) (w_orF (ptd_cmp hu (pd_var 17 rfl) pd_non .isN) (ans_non A2) (w_or1 (ptd_not (ptd_val (pd_call h_is_smallest (hr.mono (by decide)) (pad_cons (pd_var 12 rfl) (pad_cons (pd_var 17 rfl) pad_nil)) ⟨xs, A2, rfl, hx1, by omega, b1, rfl⟩))))))) rfl ?_
      have c1 : SmallOk (behindF T s xs) xs (smallA (behindF T s xs) xs) := smallA_ok (behindF_len T xs s) (by omega) (behindF_unit hT.2.2 hs hx1)
      have c2 := small_sm (behindF_len T xs s) (by omega) c1
      refine pbd_set 17 sc_law.nd (s := D (dAns (smallA (behindF T s xs) xs))) (pd_callF h_law_back fr (hr.mono (by decide)) (pad_cons (pd_call h_smallest_behind (hr.mono (by decide)) (pad_cons (pd_var 3 rfl) (pad_cons (pd_var 5 rfl) (pad_cons (pd_var 18 rfl) pad_nil))) ⟨T, s, xs, rfl, hT, hs, hx1, by omega, rfl⟩) pad_nil) ⟨_, rfl, c2, rfl⟩) ?_
      generalize smallA (behindF T s xs) xs = A3 at c1 c2
      refine b_no (ptd_w (w_orF (ptd_cmp hu (pd_var 17 rfl) pd_non .isN) (ans_non A3) (w_or1 (ptd_not (ptd_val (pd_call h_is_smallest_behind (hr.mono (by decide)) (pad_cons (pd_var 3 rfl) (pad_cons (pd_var 5 rfl) (pad_cons (pd_var 12 rfl) (pad_cons (pd_var 17 rfl) pad_nil)))) ⟨T, s, xs, A3, rfl, hT, hs, hx1, by omega, c1, rfl⟩)))))) rfl ?_
      exact pbd_weak (wk_all 18 rfl) (Nat.le_of_ble_eq_true rfl) (pbd_nx rfl)
  · subst hI
    exact pbd_ret0 pd_bl
end
end Ct

-- Z1
set_option Elab.async false
set_option linter.all false
set_option maxRecDepth 100000
set_option maxHeartbeats 0
/-! Z1: every def's promise from the head's facts; the claim (printed by genfin.py). -/
namespace Ct
open PySem PySem.Spec PyProof.Rows L2
section
variable {P : Program} {w : World} {K : PySem.W.Frag} {mg : Str → Option Value} {h base : Heap}
theorem z_frs (X : K.In h) (G : h.Ns mainGlobals mg) (c : He.SaysD fa fn K) : Frs mg := ⟨He.free_ok X G (c.fact 104 (f := .free "isinstance") rfl), He.free_ok X G (c.fact 105 (f := .free "int") rfl), He.free_ok X G (c.fact 106 (f := .free "bool") rfl), He.free_ok X G (c.fact 107 (f := .free "tuple") rfl), He.free_ok X G (c.fact 108 (f := .free "str") rfl), He.free_ok X G (c.fact 109 (f := .free "list") rfl), He.free_ok X G (c.fact 110 (f := .free "len") rfl), He.free_ok X G (c.fact 111 (f := .free "all") rfl), He.free_ok X G (c.fact 112 (f := .free "zip") rfl), He.free_ok X G (c.fact 113 (f := .free "range") rfl), He.free_ok X G (c.fact 114 (f := .free "enumerate") rfl), He.free_ok X G (c.fact 115 (f := .free "sorted") rfl), He.free_ok X G (c.fact 116 (f := .free "max") rfl), He.free_ok X G (c.fact 117 (f := .free "dict") rfl)⟩
theorem z_cs (X : K.In h) (G : h.Ns mainGlobals mg) (c : He.SaysD fa fn K) : Cs mg := ⟨He.str_ok X G (c.fact 118 (f := .str "FIGURES" "0123456789") rfl), He.int_ok X G (c.fact 119 (f := .int "LONGEST" 40) rfl), He.int_ok X G (c.fact 120 (f := .int "MOST_STANDS" 500) rfl)⟩
theorem z_is_whole (X : K.In h) (G : h.Ns mainGlobals mg) (c : He.SaysD fa fn K) : Has P w K mg base 1 "is_whole" ["thing"] p_is_whole (He.ga K "is_whole") := by
  obtain ⟨fd, F⟩ := c.def_ 0 (d := d_is_whole) rfl
  exact ok_is_whole F (He.glo_ok X G (c.fact 0 (f := .glo "is_whole") rfl)) (z_frs X G c)
theorem z_is_marks (X : K.In h) (G : h.Ns mainGlobals mg) (c : He.SaysD fa fn K) : Has P w K mg base 2 "is_marks" ["teeth", "thing"] p_is_marks (He.ga K "is_marks") := by
  obtain ⟨fd, F⟩ := c.def_ 1 (d := d_is_marks) rfl
  exact ok_is_marks F (He.glo_ok X G (c.fact 1 (f := .glo "is_marks") rfl)) (z_frs X G c) (z_is_whole X G c)
theorem z_is_part (X : K.In h) (G : h.Ns mainGlobals mg) (c : He.SaysD fa fn K) : Has P w K mg base 3 "is_part" ["thing"] p_is_part (He.ga K "is_part") := by
  obtain ⟨fd, F⟩ := c.def_ 2 (d := d_is_part) rfl
  exact ok_is_part F (He.glo_ok X G (c.fact 2 (f := .glo "is_part") rfl)) (z_frs X G c) (z_is_whole X G c) (z_is_marks X G c)
theorem z_check_train (X : K.In h) (G : h.Ns mainGlobals mg) (c : He.SaysD fa fn K) : Has P w K mg base 4 "check_train" ["train"] p_check_train (He.ga K "check_train") := by
  obtain ⟨fd, F⟩ := c.def_ 3 (d := d_check_train) rfl
  exact ok_check_train F (He.glo_ok X G (c.fact 3 (f := .glo "check_train") rfl)) (z_frs X G c) (z_is_part X G c)
theorem z_places (X : K.In h) (G : h.Ns mainGlobals mg) (c : He.SaysD fa fn K) : Has P w K mg base 1 "places" ["part"] p_places (He.ga K "places") := by
  obtain ⟨fd, F⟩ := c.def_ 4 (d := d_places) rfl
  exact ok_places F (He.glo_ok X G (c.fact 4 (f := .glo "places") rfl)) (z_frs X G c)
theorem z_is_stand (X : K.In h) (G : h.Ns mainGlobals mg) (c : He.SaysD fa fn K) : Has P w K mg base 2 "is_stand" ["train", "thing"] p_is_stand (He.ga K "is_stand") := by
  obtain ⟨fd, F⟩ := c.def_ 5 (d := d_is_stand) rfl
  exact ok_is_stand F (He.glo_ok X G (c.fact 5 (f := .glo "is_stand") rfl)) (z_frs X G c) (z_is_whole X G c) (z_places X G c)
theorem z_check_stand (X : K.In h) (G : h.Ns mainGlobals mg) (c : He.SaysD fa fn K) : Has P w K mg base 5 "check_stand" ["train", "stand"] p_check_stand (He.ga K "check_stand") := by
  obtain ⟨fd, F⟩ := c.def_ 6 (d := d_check_stand) rfl
  exact ok_check_stand F (He.glo_ok X G (c.fact 6 (f := .glo "check_stand") rfl)) (z_frs X G c) (z_check_train X G c) (z_is_stand X G c)
theorem z_marks_met (X : K.In h) (G : h.Ns mainGlobals mg) (c : He.SaysD fa fn K) : Has P w K mg base 1 "marks_met" ["part", "place", "many"] p_marks_met (He.ga K "marks_met") := by
  obtain ⟨fd, F⟩ := c.def_ 7 (d := d_marks_met) rfl
  exact ok_marks_met F (He.glo_ok X G (c.fact 7 (f := .glo "marks_met") rfl)) (z_frs X G c)
theorem z_marks_left (X : K.In h) (G : h.Ns mainGlobals mg) (c : He.SaysD fa fn K) : Has P w K mg base 1 "marks_left" ["part", "place", "many"] p_marks_left (He.ga K "marks_left") := by
  obtain ⟨fd, F⟩ := c.def_ 8 (d := d_marks_left) rfl
  exact ok_marks_left F (He.glo_ok X G (c.fact 8 (f := .glo "marks_left") rfl)) (z_frs X G c)
theorem z_part_pushed (X : K.In h) (G : h.Ns mainGlobals mg) (c : He.SaysD fa fn K) : Has P w K mg base 2 "part_pushed" ["part", "place", "way", "many"] p_part_pushed (He.ga K "part_pushed") := by
  obtain ⟨fd, F⟩ := c.def_ 9 (d := d_part_pushed) rfl
  exact ok_part_pushed F (He.glo_ok X G (c.fact 9 (f := .glo "part_pushed") rfl)) (z_frs X G c) (z_marks_left X G c) (z_marks_met X G c)
theorem z_pushed_often (X : K.In h) (G : h.Ns mainGlobals mg) (c : He.SaysD fa fn K) : Has P w K mg base 3 "pushed_often" ["train", "stand", "i", "way", "many"] p_pushed_often (He.ga K "pushed_often") := by
  obtain ⟨fd, F⟩ := c.def_ 10 (d := d_pushed_often) rfl
  exact ok_pushed_often F (He.glo_ok X G (c.fact 10 (f := .glo "pushed_often") rfl)) (z_frs X G c) (z_part_pushed X G c)
theorem z_pushed (X : K.In h) (G : h.Ns mainGlobals mg) (c : He.SaysD fa fn K) : Has P w K mg base 4 "pushed" ["train", "stand", "i", "way"] p_pushed (He.ga K "pushed") := by
  obtain ⟨fd, F⟩ := c.def_ 11 (d := d_pushed) rfl
  exact ok_pushed F (He.glo_ok X G (c.fact 11 (f := .glo "pushed") rfl)) (z_frs X G c) (z_pushed_often X G c)
theorem z_stand_count (X : K.In h) (G : h.Ns mainGlobals mg) (c : He.SaysD fa fn K) : Has P w K mg base 5 "stand_count" ["train"] p_stand_count (He.ga K "stand_count") := by
  obtain ⟨fd, F⟩ := c.def_ 12 (d := d_stand_count) rfl
  exact ok_stand_count F (He.glo_ok X G (c.fact 12 (f := .glo "stand_count") rfl)) (z_frs X G c) (z_check_train X G c) (z_places X G c)
theorem z_sure (X : K.In h) (G : h.Ns mainGlobals mg) (c : He.SaysD fa fn K) : Has P w K mg base 1 "sure" ["good"] p_sure (He.ga K "sure") := by
  obtain ⟨fd, F⟩ := c.def_ 13 (d := d_sure) rfl
  exact ok_sure F (He.glo_ok X G (c.fact 13 (f := .glo "sure") rfl)) (z_frs X G c)
theorem z_count_in (X : K.In h) (G : h.Ns mainGlobals mg) (c : He.SaysD fa fn K) : Has P w K mg base 2 "count_in" ["word"] p_count_in (He.ga K "count_in") := by
  obtain ⟨fd, F⟩ := c.def_ 14 (d := d_count_in) rfl
  exact ok_count_in F (He.glo_ok X G (c.fact 14 (f := .glo "count_in") rfl)) (z_frs X G c) (z_sure X G c) (z_cs X G c)
theorem z_way_in (X : K.In h) (G : h.Ns mainGlobals mg) (c : He.SaysD fa fn K) : Has P w K mg base 2 "way_in" ["word"] p_way_in (He.ga K "way_in") := by
  obtain ⟨fd, F⟩ := c.def_ 15 (d := d_way_in) rfl
  exact ok_way_in F (He.glo_ok X G (c.fact 15 (f := .glo "way_in") rfl)) (z_frs X G c) (z_sure X G c)
theorem z_way_shown (X : K.In h) (G : h.Ns mainGlobals mg) (c : He.SaysD fa fn K) : Has P w K mg base 1 "way_shown" ["way"] p_way_shown (He.ga K "way_shown") := by
  obtain ⟨fd, F⟩ := c.def_ 16 (d := d_way_shown) rfl
  exact ok_way_shown F (He.glo_ok X G (c.fact 16 (f := .glo "way_shown") rfl)) (z_frs X G c)
theorem z_listed (X : K.In h) (G : h.Ns mainGlobals mg) (c : He.SaysD fa fn K) : Has P w K mg base 1 "listed" ["words"] p_listed (He.ga K "listed") := by
  obtain ⟨fd, F⟩ := c.def_ 17 (d := d_listed) rfl
  exact ok_listed F (He.glo_ok X G (c.fact 17 (f := .glo "listed") rfl)) (z_frs X G c)
theorem z_words_in (X : K.In h) (G : h.Ns mainGlobals mg) (c : He.SaysD fa fn K) : Has P w K mg base 1 "words_in" ["text"] p_words_in (He.ga K "words_in") := by
  obtain ⟨fd, F⟩ := c.def_ 18 (d := d_words_in) rfl
  exact ok_words_in F (He.glo_ok X G (c.fact 18 (f := .glo "words_in") rfl)) (z_frs X G c)
theorem z_part_shown (X : K.In h) (G : h.Ns mainGlobals mg) (c : He.SaysD fa fn K) : Has P w K mg base 1 "part_shown" ["part"] p_part_shown (He.ga K "part_shown") := by
  obtain ⟨fd, F⟩ := c.def_ 19 (d := d_part_shown) rfl
  exact ok_part_shown F (He.glo_ok X G (c.fact 19 (f := .glo "part_shown") rfl)) (z_frs X G c)
theorem z_part_in (X : K.In h) (G : h.Ns mainGlobals mg) (c : He.SaysD fa fn K) : Has P w K mg base 3 "part_in" ["word"] p_part_in (He.ga K "part_in") := by
  obtain ⟨fd, F⟩ := c.def_ 20 (d := d_part_in) rfl
  exact ok_part_in F (He.glo_ok X G (c.fact 20 (f := .glo "part_in") rfl)) (z_frs X G c) (z_sure X G c) (z_count_in X G c)
theorem z_show_train (X : K.In h) (G : h.Ns mainGlobals mg) (c : He.SaysD fa fn K) : Has P w K mg base 5 "show_train" ["train"] p_show_train (He.ga K "show_train") := by
  obtain ⟨fd, F⟩ := c.def_ 21 (d := d_show_train) rfl
  exact ok_show_train F (He.glo_ok X G (c.fact 21 (f := .glo "show_train") rfl)) (z_frs X G c) (z_check_train X G c) (z_part_shown X G c)
theorem z_read_train (X : K.In h) (G : h.Ns mainGlobals mg) (c : He.SaysD fa fn K) : Has P w K mg base 5 "read_train" ["text"] p_read_train (He.ga K "read_train") := by
  obtain ⟨fd, F⟩ := c.def_ 22 (d := d_read_train) rfl
  exact ok_read_train F (He.glo_ok X G (c.fact 22 (f := .glo "read_train") rfl)) (z_frs X G c) (z_check_train X G c) (z_part_in X G c)
theorem z_show_stand (X : K.In h) (G : h.Ns mainGlobals mg) (c : He.SaysD fa fn K) : Has P w K mg base 1 "show_stand" ["stand"] p_show_stand (He.ga K "show_stand") := by
  obtain ⟨fd, F⟩ := c.def_ 23 (d := d_show_stand) rfl
  exact ok_show_stand F (He.glo_ok X G (c.fact 23 (f := .glo "show_stand") rfl)) (z_frs X G c)
theorem z_read_stand (X : K.In h) (G : h.Ns mainGlobals mg) (c : He.SaysD fa fn K) : Has P w K mg base 3 "read_stand" ["text"] p_read_stand (He.ga K "read_stand") := by
  obtain ⟨fd, F⟩ := c.def_ 24 (d := d_read_stand) rfl
  exact ok_read_stand F (He.glo_ok X G (c.fact 24 (f := .glo "read_stand") rfl)) (z_frs X G c) (z_count_in X G c)
theorem z_step_shown (X : K.In h) (G : h.Ns mainGlobals mg) (c : He.SaysD fa fn K) : Has P w K mg base 2 "step_shown" ["step"] p_step_shown (He.ga K "step_shown") := by
  obtain ⟨fd, F⟩ := c.def_ 25 (d := d_step_shown) rfl
  exact ok_step_shown F (He.glo_ok X G (c.fact 25 (f := .glo "step_shown") rfl)) (z_frs X G c) (z_way_shown X G c)
theorem z_push_in (X : K.In h) (G : h.Ns mainGlobals mg) (c : He.SaysD fa fn K) : Has P w K mg base 3 "push_in" ["word"] p_push_in (He.ga K "push_in") := by
  obtain ⟨fd, F⟩ := c.def_ 26 (d := d_push_in) rfl
  exact ok_push_in F (He.glo_ok X G (c.fact 26 (f := .glo "push_in") rfl)) (z_frs X G c) (z_count_in X G c) (z_way_in X G c)
theorem z_deed_in (X : K.In h) (G : h.Ns mainGlobals mg) (c : He.SaysD fa fn K) : Has P w K mg base 4 "deed_in" ["word"] p_deed_in (He.ga K "deed_in") := by
  obtain ⟨fd, F⟩ := c.def_ 27 (d := d_deed_in) rfl
  exact ok_deed_in F (He.glo_ok X G (c.fact 27 (f := .glo "deed_in") rfl)) (z_frs X G c) (z_sure X G c) (z_push_in X G c) (z_count_in X G c)
theorem z_show_row (X : K.In h) (G : h.Ns mainGlobals mg) (c : He.SaysD fa fn K) : Has P w K mg base 3 "show_row" ["row"] p_show_row (He.ga K "show_row") := by
  obtain ⟨fd, F⟩ := c.def_ 28 (d := d_show_row) rfl
  exact ok_show_row F (He.glo_ok X G (c.fact 28 (f := .glo "show_row") rfl)) (z_frs X G c) (z_listed X G c) (z_step_shown X G c)
theorem z_read_row (X : K.In h) (G : h.Ns mainGlobals mg) (c : He.SaysD fa fn K) : Has P w K mg base 5 "read_row" ["text"] p_read_row (He.ga K "read_row") := by
  obtain ⟨fd, F⟩ := c.def_ 29 (d := d_read_row) rfl
  exact ok_read_row F (He.glo_ok X G (c.fact 29 (f := .glo "read_row") rfl)) (z_frs X G c) (z_deed_in X G c) (z_words_in X G c)
theorem z_show_pushes (X : K.In h) (G : h.Ns mainGlobals mg) (c : He.SaysD fa fn K) : Has P w K mg base 3 "show_pushes" ["pushes"] p_show_pushes (He.ga K "show_pushes") := by
  obtain ⟨fd, F⟩ := c.def_ 30 (d := d_show_pushes) rfl
  exact ok_show_pushes F (He.glo_ok X G (c.fact 30 (f := .glo "show_pushes") rfl)) (z_frs X G c) (z_listed X G c) (z_step_shown X G c)
theorem z_read_pushes (X : K.In h) (G : h.Ns mainGlobals mg) (c : He.SaysD fa fn K) : Has P w K mg base 4 "read_pushes" ["text"] p_read_pushes (He.ga K "read_pushes") := by
  obtain ⟨fd, F⟩ := c.def_ 31 (d := d_read_pushes) rfl
  exact ok_read_pushes F (He.glo_ok X G (c.fact 31 (f := .glo "read_pushes") rfl)) (z_frs X G c) (z_push_in X G c) (z_words_in X G c)
theorem z_shown_in (X : K.In h) (G : h.Ns mainGlobals mg) (c : He.SaysD fa fn K) : Has P w K mg base 2 "shown_in" ["word"] p_shown_in (He.ga K "shown_in") := by
  obtain ⟨fd, F⟩ := c.def_ 32 (d := d_shown_in) rfl
  exact ok_shown_in F (He.glo_ok X G (c.fact 32 (f := .glo "shown_in") rfl)) (z_frs X G c) (z_sure X G c)
theorem z_show_shown (X : K.In h) (G : h.Ns mainGlobals mg) (c : He.SaysD fa fn K) : Has P w K mg base 2 "show_shown" ["shown"] p_show_shown (He.ga K "show_shown") := by
  obtain ⟨fd, F⟩ := c.def_ 33 (d := d_show_shown) rfl
  exact ok_show_shown F (He.glo_ok X G (c.fact 33 (f := .glo "show_shown") rfl)) (z_frs X G c) (z_listed X G c) (z_way_shown X G c)
theorem z_read_shown (X : K.In h) (G : h.Ns mainGlobals mg) (c : He.SaysD fa fn K) : Has P w K mg base 4 "read_shown" ["text"] p_read_shown (He.ga K "read_shown") := by
  obtain ⟨fd, F⟩ := c.def_ 34 (d := d_read_shown) rfl
  exact ok_read_shown F (He.glo_ok X G (c.fact 34 (f := .glo "read_shown") rfl)) (z_frs X G c) (z_words_in X G c) (z_push_in X G c) (z_shown_in X G c)
theorem z_show_shows (X : K.In h) (G : h.Ns mainGlobals mg) (c : He.SaysD fa fn K) : Has P w K mg base 2 "show_shows" ["shows"] p_show_shows (He.ga K "show_shows") := by
  obtain ⟨fd, F⟩ := c.def_ 35 (d := d_show_shows) rfl
  exact ok_show_shows F (He.glo_ok X G (c.fact 35 (f := .glo "show_shows") rfl)) (z_frs X G c) (z_listed X G c) (z_way_shown X G c)
theorem z_read_shows (X : K.In h) (G : h.Ns mainGlobals mg) (c : He.SaysD fa fn K) : Has P w K mg base 3 "read_shows" ["text"] p_read_shows (He.ga K "read_shows") := by
  obtain ⟨fd, F⟩ := c.def_ 36 (d := d_read_shows) rfl
  exact ok_read_shows F (He.glo_ok X G (c.fact 36 (f := .glo "read_shows") rfl)) (z_frs X G c) (z_words_in X G c) (z_way_in X G c) (z_shown_in X G c)
theorem z_two_shown (X : K.In h) (G : h.Ns mainGlobals mg) (c : He.SaysD fa fn K) : Has P w K mg base 1 "two_shown" ["one", "other"] p_two_shown (He.ga K "two_shown") := by
  obtain ⟨fd, F⟩ := c.def_ 37 (d := d_two_shown) rfl
  exact ok_two_shown F (He.glo_ok X G (c.fact 37 (f := .glo "two_shown") rfl)) (z_frs X G c)
theorem z_show_answer (X : K.In h) (G : h.Ns mainGlobals mg) (c : He.SaysD fa fn K) : Has P w K mg base 4 "show_answer" ["told"] p_show_answer (He.ga K "show_answer") := by
  obtain ⟨fd, F⟩ := c.def_ 38 (d := d_show_answer) rfl
  exact ok_show_answer F (He.glo_ok X G (c.fact 38 (f := .glo "show_answer") rfl)) (z_frs X G c) (z_listed X G c) (z_two_shown X G c) (z_show_stand X G c) (z_show_row X G c) (z_way_shown X G c) (z_part_shown X G c)
theorem z_two_in (X : K.In h) (G : h.Ns mainGlobals mg) (c : He.SaysD fa fn K) : Has P w K mg base 2 "two_in" ["word"] p_two_in (He.ga K "two_in") := by
  obtain ⟨fd, F⟩ := c.def_ 39 (d := d_two_in) rfl
  exact ok_two_in F (He.glo_ok X G (c.fact 39 (f := .glo "two_in") rfl)) (z_frs X G c) (z_sure X G c)
theorem z_pair_in (X : K.In h) (G : h.Ns mainGlobals mg) (c : He.SaysD fa fn K) : Has P w K mg base 4 "pair_in" ["word"] p_pair_in (He.ga K "pair_in") := by
  obtain ⟨fd, F⟩ := c.def_ 40 (d := d_pair_in) rfl
  exact ok_pair_in F (He.glo_ok X G (c.fact 40 (f := .glo "pair_in") rfl)) (z_frs X G c) (z_two_in X G c) (z_read_stand X G c)
theorem z_bar_in (X : K.In h) (G : h.Ns mainGlobals mg) (c : He.SaysD fa fn K) : Has P w K mg base 3 "bar_in" ["word"] p_bar_in (He.ga K "bar_in") := by
  obtain ⟨fd, F⟩ := c.def_ 41 (d := d_bar_in) rfl
  exact ok_bar_in F (He.glo_ok X G (c.fact 41 (f := .glo "bar_in") rfl)) (z_frs X G c) (z_two_in X G c) (z_count_in X G c)
theorem z_numbered_in (X : K.In h) (G : h.Ns mainGlobals mg) (c : He.SaysD fa fn K) : Has P w K mg base 4 "numbered_in" ["word"] p_numbered_in (He.ga K "numbered_in") := by
  obtain ⟨fd, F⟩ := c.def_ 42 (d := d_numbered_in) rfl
  exact ok_numbered_in F (He.glo_ok X G (c.fact 42 (f := .glo "numbered_in") rfl)) (z_frs X G c) (z_read_stand X G c) (z_count_in X G c)
theorem z_steps_in (X : K.In h) (G : h.Ns mainGlobals mg) (c : He.SaysD fa fn K) : Has P w K mg base 6 "steps_in" ["text"] p_steps_in (He.ga K "steps_in") := by
  obtain ⟨fd, F⟩ := c.def_ 43 (d := d_steps_in) rfl
  exact ok_steps_in F (He.glo_ok X G (c.fact 43 (f := .glo "steps_in") rfl)) (z_frs X G c) (z_read_row X G c) (z_read_pushes X G c)
theorem z_wheel_in (X : K.In h) (G : h.Ns mainGlobals mg) (c : He.SaysD fa fn K) : Has P w K mg base 4 "wheel_in" ["words"] p_wheel_in (He.ga K "wheel_in") := by
  obtain ⟨fd, F⟩ := c.def_ 44 (d := d_wheel_in) rfl
  exact ok_wheel_in F (He.glo_ok X G (c.fact 44 (f := .glo "wheel_in") rfl)) (z_frs X G c) (z_part_in X G c) (z_sure X G c) (z_is_part X G c) (z_bar_in X G c)
theorem z_read_answer (X : K.In h) (G : h.Ns mainGlobals mg) (c : He.SaysD fa fn K) : Has P w K mg base 7 "read_answer" ["text"] p_read_answer (He.ga K "read_answer") := by
  obtain ⟨fd, F⟩ := c.def_ 45 (d := d_read_answer) rfl
  exact ok_read_answer F (He.glo_ok X G (c.fact 45 (f := .glo "read_answer") rfl)) (z_frs X G c) (z_sure X G c) (z_wheel_in X G c) (z_count_in X G c) (z_steps_in X G c) (z_pair_in X G c) (z_way_in X G c) (z_read_stand X G c) (z_numbered_in X G c) (z_words_in X G c)
theorem z_pair_pushed (X : K.In h) (G : h.Ns mainGlobals mg) (c : He.SaysD fa fn K) : Has P w K mg base 5 "pair_pushed" ["train", "other", "pair", "way"] p_pair_pushed (He.ga K "pair_pushed") := by
  obtain ⟨fd, F⟩ := c.def_ 46 (d := d_pair_pushed) rfl
  exact ok_pair_pushed F (He.glo_ok X G (c.fact 46 (f := .glo "pair_pushed") rfl)) (z_frs X G c) (z_pushed X G c)
theorem z_trains_alike (X : K.In h) (G : h.Ns mainGlobals mg) (c : He.SaysD fa fn K) : Has P w K mg base 6 "trains_alike" ["train", "stand", "other", "there"] p_trains_alike (He.ga K "trains_alike") := by
  obtain ⟨fd, F⟩ := c.def_ 47 (d := d_trains_alike) rfl
  exact ok_trains_alike F (He.glo_ok X G (c.fact 47 (f := .glo "trains_alike") rfl)) (z_frs X G c) (z_check_stand X G c) (z_pair_pushed X G c)
theorem z_is_pair (X : K.In h) (G : h.Ns mainGlobals mg) (c : He.SaysD fa fn K) : Has P w K mg base 3 "is_pair" ["train", "other", "thing"] p_is_pair (He.ga K "is_pair") := by
  obtain ⟨fd, F⟩ := c.def_ 48 (d := d_is_pair) rfl
  exact ok_is_pair F (He.glo_ok X G (c.fact 48 (f := .glo "is_pair") rfl)) (z_frs X G c) (z_is_stand X G c)
theorem z_is_way (X : K.In h) (G : h.Ns mainGlobals mg) (c : He.SaysD fa fn K) : Has P w K mg base 1 "is_way" ["thing"] p_is_way (He.ga K "is_way") := by
  obtain ⟨fd, F⟩ := c.def_ 51 (d := d_is_way) rfl
  exact ok_is_way F (He.glo_ok X G (c.fact 51 (f := .glo "is_way") rfl)) (z_frs X G c)
theorem z_are_apart (X : K.In h) (G : h.Ns mainGlobals mg) (c : He.SaysD fa fn K) : Has P w K mg base 6 "are_apart" ["train", "stand", "other", "there", "pushes"] p_are_apart (He.ga K "are_apart") := by
  obtain ⟨fd, F⟩ := c.def_ 50 (d := d_are_apart) rfl
  exact ok_are_apart F (He.glo_ok X G (c.fact 50 (f := .glo "are_apart") rfl)) (z_frs X G c) (z_pair_pushed X G c) (z_is_way X G c)
theorem z_are_closed (X : K.In h) (G : h.Ns mainGlobals mg) (c : He.SaysD fa fn K) : Has P w K mg base 6 "are_closed" ["train", "other", "begun", "pairs"] p_are_closed (He.ga K "are_closed") := by
  obtain ⟨fd, F⟩ := c.def_ 52 (d := d_are_closed) rfl
  exact ok_are_closed F (He.glo_ok X G (c.fact 52 (f := .glo "are_closed") rfl)) (z_frs X G c) (z_pair_pushed X G c) (z_is_pair X G c)
theorem z_shows_alike (X : K.In h) (G : h.Ns mainGlobals mg) (c : He.SaysD fa fn K) : Has P w K mg base 7 "shows_alike" ["train", "stand", "other", "there", "thing"] p_shows_alike (He.ga K "shows_alike") := by
  obtain ⟨fd, F⟩ := c.def_ 49 (d := d_shows_alike) rfl
  exact ok_shows_alike F (He.glo_ok X G (c.fact 49 (f := .glo "shows_alike") rfl)) (z_frs X G c) (z_check_stand X G c) (z_are_apart X G c) (z_are_closed X G c)
theorem z_is_show_makes (X : K.In h) (G : h.Ns mainGlobals mg) (c : He.SaysD fa fn K) : Has P w K mg base 2 "is_show_makes" ["thing"] p_is_show_makes (He.ga K "is_show_makes") := by
  obtain ⟨fd, F⟩ := c.def_ 53 (d := d_is_show_makes) rfl
  exact ok_is_show_makes F (He.glo_ok X G (c.fact 53 (f := .glo "is_show_makes") rfl)) (z_frs X G c) (z_is_whole X G c) (z_is_way X G c)
theorem z_check_shows (X : K.In h) (G : h.Ns mainGlobals mg) (c : He.SaysD fa fn K) : Has P w K mg base 3 "check_shows" ["shows"] p_check_shows (He.ga K "check_shows") := by
  obtain ⟨fd, F⟩ := c.def_ 54 (d := d_check_shows) rfl
  exact ok_check_shows F (He.glo_ok X G (c.fact 54 (f := .glo "check_shows") rfl)) (z_frs X G c) (z_is_show_makes X G c)
theorem z_own_ways (X : K.In h) (G : h.Ns mainGlobals mg) (c : He.SaysD fa fn K) : Has P w K mg base 1 "own_ways" ["shows"] p_own_ways (He.ga K "own_ways") := by
  obtain ⟨fd, F⟩ := c.def_ 55 (d := d_own_ways) rfl
  exact ok_own_ways F (He.glo_ok X G (c.fact 55 (f := .glo "own_ways") rfl)) (z_frs X G c)
theorem z_ways_behind (X : K.In h) (G : h.Ns mainGlobals mg) (c : He.SaysD fa fn K) : Has P w K mg base 5 "ways_behind" ["train", "stand", "shows"] p_ways_behind (He.ga K "ways_behind") := by
  obtain ⟨fd, F⟩ := c.def_ 56 (d := d_ways_behind) rfl
  exact ok_ways_behind F (He.glo_ok X G (c.fact 56 (f := .glo "ways_behind") rfl)) (z_frs X G c) (z_pushed X G c)
theorem z_teeth_passed (X : K.In h) (G : h.Ns mainGlobals mg) (c : He.SaysD fa fn K) : Has P w K mg base 1 "teeth_passed" ["ways"] p_teeth_passed (He.ga K "teeth_passed") := by
  obtain ⟨fd, F⟩ := c.def_ 57 (d := d_teeth_passed) rfl
  exact ok_teeth_passed F (He.glo_ok X G (c.fact 57 (f := .glo "teeth_passed") rfl)) (z_frs X G c)
theorem z_first_wrong (X : K.In h) (G : h.Ns mainGlobals mg) (c : He.SaysD fa fn K) : Has P w K mg base 1 "first_wrong" ["ways", "shows"] p_first_wrong (He.ga K "first_wrong") := by
  obtain ⟨fd, F⟩ := c.def_ 58 (d := d_first_wrong) rfl
  exact ok_first_wrong F (He.glo_ok X G (c.fact 58 (f := .glo "first_wrong") rfl)) (z_frs X G c)
theorem z_place_of (X : K.In h) (G : h.Ns mainGlobals mg) (c : He.SaysD fa fn K) : Has P w K mg base 1 "place_of" ["tooth", "teeth"] p_place_of (He.ga K "place_of") := by
  obtain ⟨fd, F⟩ := c.def_ 59 (d := d_place_of) rfl
  exact ok_place_of F (He.glo_ok X G (c.fact 59 (f := .glo "place_of") rfl)) (z_frs X G c)
theorem z_first_two (X : K.In h) (G : h.Ns mainGlobals mg) (c : He.SaysD fa fn K) : Has P w K mg base 2 "first_two" ["passed", "shows", "teeth"] p_first_two (He.ga K "first_two") := by
  obtain ⟨fd, F⟩ := c.def_ 60 (d := d_first_two) rfl
  exact ok_first_two F (He.glo_ok X G (c.fact 60 (f := .glo "first_two") rfl)) (z_frs X G c) (z_place_of X G c)
theorem z_marks_shown (X : K.In h) (G : h.Ns mainGlobals mg) (c : He.SaysD fa fn K) : Has P w K mg base 1 "marks_shown" ["passed", "shows", "teeth"] p_marks_shown (He.ga K "marks_shown") := by
  obtain ⟨fd, F⟩ := c.def_ 61 (d := d_marks_shown) rfl
  exact ok_marks_shown F (He.glo_ok X G (c.fact 61 (f := .glo "marks_shown") rfl)) (z_frs X G c)
theorem z_smallest_by (X : K.In h) (G : h.Ns mainGlobals mg) (c : He.SaysD fa fn K) : Has P w K mg base 3 "smallest_by" ["ways", "shows"] p_smallest_by (He.ga K "smallest_by") := by
  obtain ⟨fd, F⟩ := c.def_ 62 (d := d_smallest_by) rfl
  exact ok_smallest_by F (He.glo_ok X G (c.fact 62 (f := .glo "smallest_by") rfl)) (z_frs X G c) (z_first_wrong X G c) (z_teeth_passed X G c) (z_first_two X G c) (z_marks_shown X G c)
theorem z_is_two (X : K.In h) (G : h.Ns mainGlobals mg) (c : He.SaysD fa fn K) : Has P w K mg base 2 "is_two" ["passed", "shows", "teeth", "thing"] p_is_two (He.ga K "is_two") := by
  obtain ⟨fd, F⟩ := c.def_ 63 (d := d_is_two) rfl
  exact ok_is_two F (He.glo_ok X G (c.fact 63 (f := .glo "is_two") rfl)) (z_frs X G c) (z_place_of X G c) (z_is_whole X G c)
theorem z_does_shows (X : K.In h) (G : h.Ns mainGlobals mg) (c : He.SaysD fa fn K) : Has P w K mg base 2 "does_shows" ["ways", "shows", "teeth", "marks"] p_does_shows (He.ga K "does_shows") := by
  obtain ⟨fd, F⟩ := c.def_ 64 (d := d_does_shows) rfl
  exact ok_does_shows F (He.glo_ok X G (c.fact 64 (f := .glo "does_shows") rfl)) (z_frs X G c) (z_teeth_passed X G c)
theorem z_is_none_by (X : K.In h) (G : h.Ns mainGlobals mg) (c : He.SaysD fa fn K) : Has P w K mg base 3 "is_none_by" ["ways", "shows", "j", "k"] p_is_none_by (He.ga K "is_none_by") := by
  obtain ⟨fd, F⟩ := c.def_ 65 (d := d_is_none_by) rfl
  exact ok_is_none_by F (He.glo_ok X G (c.fact 65 (f := .glo "is_none_by") rfl)) (z_frs X G c) (z_is_two X G c) (z_is_whole X G c) (z_teeth_passed X G c)
theorem z_is_smallest_by (X : K.In h) (G : h.Ns mainGlobals mg) (c : He.SaysD fa fn K) : Has P w K mg base 4 "is_smallest_by" ["ways", "shows", "thing"] p_is_smallest_by (He.ga K "is_smallest_by") := by
  obtain ⟨fd, F⟩ := c.def_ 66 (d := d_is_smallest_by) rfl
  exact ok_is_smallest_by F (He.glo_ok X G (c.fact 66 (f := .glo "is_smallest_by") rfl)) (z_frs X G c) (z_teeth_passed X G c) (z_is_none_by X G c) (z_is_whole X G c) (z_is_marks X G c) (z_does_shows X G c) (z_is_two X G c)
theorem z_smallest (X : K.In h) (G : h.Ns mainGlobals mg) (c : He.SaysD fa fn K) : Has P w K mg base 4 "smallest" ["shows"] p_smallest (He.ga K "smallest") := by
  obtain ⟨fd, F⟩ := c.def_ 67 (d := d_smallest) rfl
  exact ok_smallest F (He.glo_ok X G (c.fact 67 (f := .glo "smallest") rfl)) (z_frs X G c) (z_check_shows X G c) (z_smallest_by X G c) (z_own_ways X G c)
theorem z_is_smallest (X : K.In h) (G : h.Ns mainGlobals mg) (c : He.SaysD fa fn K) : Has P w K mg base 5 "is_smallest" ["shows", "thing"] p_is_smallest (He.ga K "is_smallest") := by
  obtain ⟨fd, F⟩ := c.def_ 68 (d := d_is_smallest) rfl
  exact ok_is_smallest F (He.glo_ok X G (c.fact 68 (f := .glo "is_smallest") rfl)) (z_frs X G c) (z_check_shows X G c) (z_is_smallest_by X G c) (z_own_ways X G c)
theorem z_smallest_behind (X : K.In h) (G : h.Ns mainGlobals mg) (c : He.SaysD fa fn K) : Has P w K mg base 6 "smallest_behind" ["train", "stand", "shows"] p_smallest_behind (He.ga K "smallest_behind") := by
  obtain ⟨fd, F⟩ := c.def_ 69 (d := d_smallest_behind) rfl
  exact ok_smallest_behind F (He.glo_ok X G (c.fact 69 (f := .glo "smallest_behind") rfl)) (z_frs X G c) (z_check_stand X G c) (z_check_shows X G c) (z_smallest_by X G c) (z_ways_behind X G c)
theorem z_is_smallest_behind (X : K.In h) (G : h.Ns mainGlobals mg) (c : He.SaysD fa fn K) : Has P w K mg base 6 "is_smallest_behind" ["train", "stand", "shows", "thing"] p_is_smallest_behind (He.ga K "is_smallest_behind") := by
  obtain ⟨fd, F⟩ := c.def_ 70 (d := d_is_smallest_behind) rfl
  exact ok_is_smallest_behind F (He.glo_ok X G (c.fact 70 (f := .glo "is_smallest_behind") rfl)) (z_frs X G c) (z_check_stand X G c) (z_check_shows X G c) (z_is_smallest_by X G c) (z_ways_behind X G c)
theorem z_is_deed (X : K.In h) (G : h.Ns mainGlobals mg) (c : He.SaysD fa fn K) : Has P w K mg base 2 "is_deed" ["train", "thing"] p_is_deed (He.ga K "is_deed") := by
  obtain ⟨fd, F⟩ := c.def_ 71 (d := d_is_deed) rfl
  exact ok_is_deed F (He.glo_ok X G (c.fact 71 (f := .glo "is_deed") rfl)) (z_frs X G c) (z_is_whole X G c)
theorem z_check_row (X : K.In h) (G : h.Ns mainGlobals mg) (c : He.SaysD fa fn K) : Has P w K mg base 3 "check_row" ["train", "row"] p_check_row (He.ga K "check_row") := by
  obtain ⟨fd, F⟩ := c.def_ 72 (d := d_check_row) rfl
  exact ok_check_row F (He.glo_ok X G (c.fact 72 (f := .glo "check_row") rfl)) (z_frs X G c) (z_is_deed X G c)
theorem z_walked (X : K.In h) (G : h.Ns mainGlobals mg) (c : He.SaysD fa fn K) : Has P w K mg base 4 "walked" ["train", "stand", "row"] p_walked (He.ga K "walked") := by
  obtain ⟨fd, F⟩ := c.def_ 73 (d := d_walked) rfl
  exact ok_walked F (He.glo_ok X G (c.fact 73 (f := .glo "walked") rfl)) (z_frs X G c) (z_pushed_often X G c)
theorem z_left (X : K.In h) (G : h.Ns mainGlobals mg) (c : He.SaysD fa fn K) : Has P w K mg base 6 "left" ["train", "stand", "row"] p_left (He.ga K "left") := by
  obtain ⟨fd, F⟩ := c.def_ 74 (d := d_left) rfl
  exact ok_left F (He.glo_ok X G (c.fact 74 (f := .glo "left") rfl)) (z_frs X G c) (z_check_stand X G c) (z_check_row X G c) (z_walked X G c)
theorem z_check_keys (X : K.In h) (G : h.Ns mainGlobals mg) (c : He.SaysD fa fn K) : Has P w K mg base 2 "check_keys" ["train", "keys"] p_check_keys (He.ga K "check_keys") := by
  obtain ⟨fd, F⟩ := c.def_ 75 (d := d_check_keys) rfl
  exact ok_check_keys F (He.glo_ok X G (c.fact 75 (f := .glo "check_keys") rfl)) (z_frs X G c) (z_is_whole X G c)
theorem z_check_goal (X : K.In h) (G : h.Ns mainGlobals mg) (c : He.SaysD fa fn K) : Has P w K mg base 6 "check_goal" ["train", "stand", "goal", "keys"] p_check_goal (He.ga K "check_goal") := by
  obtain ⟨fd, F⟩ := c.def_ 76 (d := d_check_goal) rfl
  exact ok_check_goal F (He.glo_ok X G (c.fact 76 (f := .glo "check_goal") rfl)) (z_frs X G c) (z_check_stand X G c) (z_check_keys X G c) (z_is_stand X G c)
theorem z_all_pushes (X : K.In h) (G : h.Ns mainGlobals mg) (c : He.SaysD fa fn K) : Has P w K mg base 1 "all_pushes" ["keys"] p_all_pushes (He.ga K "all_pushes") := by
  obtain ⟨fd, F⟩ := c.def_ 77 (d := d_all_pushes) rfl
  exact ok_all_pushes F (He.glo_ok X G (c.fact 77 (f := .glo "all_pushes") rfl)) (z_frs X G c)
theorem z_push_ends (X : K.In h) (G : h.Ns mainGlobals mg) (c : He.SaysD fa fn K) : Has P w K mg base 5 "push_ends" ["train", "stand", "keys"] p_push_ends (He.ga K "push_ends") := by
  obtain ⟨fd, F⟩ := c.def_ 78 (d := d_push_ends) rfl
  exact ok_push_ends F (He.glo_ok X G (c.fact 78 (f := .glo "push_ends") rfl)) (z_frs X G c) (z_all_pushes X G c) (z_pushed X G c)
theorem z_deed_ends (X : K.In h) (G : h.Ns mainGlobals mg) (c : He.SaysD fa fn K) : Has P w K mg base 5 "deed_ends" ["train", "stand", "keys"] p_deed_ends (He.ga K "deed_ends") := by
  obtain ⟨fd, F⟩ := c.def_ 79 (d := d_deed_ends) rfl
  exact ok_deed_ends F (He.glo_ok X G (c.fact 79 (f := .glo "deed_ends") rfl)) (z_frs X G c) (z_all_pushes X G c) (z_pushed X G c)
theorem z_least_by (X : K.In h) (G : h.Ns mainGlobals mg) (c : He.SaysD fa fn K) : Has P w K mg base 6 "least_by" ["train", "stand", "goal", "keys", "ends_of"] (p_least_by P w K mg base) (He.ga K "least_by") := by
  obtain ⟨fd, F⟩ := c.def_ 80 (d := d_least_by) rfl
  exact ok_least_by F (He.glo_ok X G (c.fact 80 (f := .glo "least_by") rfl)) (z_frs X G c)
theorem z_least_pushes (X : K.In h) (G : h.Ns mainGlobals mg) (c : He.SaysD fa fn K) : Has P w K mg base 7 "least_pushes" ["train", "stand", "goal", "keys"] p_least_pushes (He.ga K "least_pushes") := by
  obtain ⟨fd, F⟩ := c.def_ 81 (d := d_least_pushes) rfl
  exact ok_least_pushes F (He.glo_ok X G (c.fact 81 (f := .glo "least_pushes") rfl)) (z_frs X G c) (z_check_goal X G c) (z_least_by X G c) (z_push_ends X G c) (z_stand_count X G c) (z_cs X G c)
theorem z_fewest_deeds (X : K.In h) (G : h.Ns mainGlobals mg) (c : He.SaysD fa fn K) : Has P w K mg base 7 "fewest_deeds" ["train", "stand", "goal", "keys"] p_fewest_deeds (He.ga K "fewest_deeds") := by
  obtain ⟨fd, F⟩ := c.def_ 82 (d := d_fewest_deeds) rfl
  exact ok_fewest_deeds F (He.glo_ok X G (c.fact 82 (f := .glo "fewest_deeds") rfl)) (z_frs X G c) (z_check_goal X G c) (z_least_by X G c) (z_deed_ends X G c) (z_stand_count X G c) (z_cs X G c)
theorem z_is_push (X : K.In h) (G : h.Ns mainGlobals mg) (c : He.SaysD fa fn K) : Has P w K mg base 2 "is_push" ["keys", "thing"] p_is_push (He.ga K "is_push") := by
  obtain ⟨fd, F⟩ := c.def_ 83 (d := d_is_push) rfl
  exact ok_is_push F (He.glo_ok X G (c.fact 83 (f := .glo "is_push") rfl)) (z_frs X G c) (z_is_whole X G c)
theorem z_is_numbered (X : K.In h) (G : h.Ns mainGlobals mg) (c : He.SaysD fa fn K) : Has P w K mg base 3 "is_numbered" ["train", "thing"] p_is_numbered (He.ga K "is_numbered") := by
  obtain ⟨fd, F⟩ := c.def_ 84 (d := d_is_numbered) rfl
  exact ok_is_numbered F (He.glo_ok X G (c.fact 84 (f := .glo "is_numbered") rfl)) (z_frs X G c) (z_is_stand X G c) (z_is_whole X G c)
theorem z_numbers_hold (X : K.In h) (G : h.Ns mainGlobals mg) (c : He.SaysD fa fn K) : Has P w K mg base 6 "numbers_hold" ["train", "stand", "goal", "keys", "many", "rows", "ends_of"] (p_numbers_hold P w K mg base) (He.ga K "numbers_hold") := by
  obtain ⟨fd, F⟩ := c.def_ 85 (d := d_numbers_hold) rfl
  exact ok_numbers_hold F (He.glo_ok X G (c.fact 85 (f := .glo "numbers_hold") rfl)) (z_frs X G c) (z_is_numbered X G c)
theorem z_is_paper (X : K.In h) (G : h.Ns mainGlobals mg) (c : He.SaysD fa fn K) : Has P w K mg base 1 "is_paper" ["thing", "word", "many"] p_is_paper (He.ga K "is_paper") := by
  obtain ⟨fd, F⟩ := c.def_ 86 (d := d_is_paper) rfl
  exact ok_is_paper F (He.glo_ok X G (c.fact 86 (f := .glo "is_paper") rfl)) (z_frs X G c)
theorem z_shows_row (X : K.In h) (G : h.Ns mainGlobals mg) (c : He.SaysD fa fn K) : Has P w K mg base 7 "shows_row" ["train", "stand", "goal", "keys", "thing"] p_shows_row (He.ga K "shows_row") := by
  obtain ⟨fd, F⟩ := c.def_ 87 (d := d_shows_row) rfl
  exact ok_shows_row F (He.glo_ok X G (c.fact 87 (f := .glo "shows_row") rfl)) (z_frs X G c) (z_check_goal X G c) (z_numbers_hold X G c) (z_push_ends X G c) (z_is_paper X G c) (z_pushed X G c) (z_is_push X G c)
theorem z_shows_deeds (X : K.In h) (G : h.Ns mainGlobals mg) (c : He.SaysD fa fn K) : Has P w K mg base 7 "shows_deeds" ["train", "stand", "goal", "keys", "thing"] p_shows_deeds (He.ga K "shows_deeds") := by
  obtain ⟨fd, F⟩ := c.def_ 88 (d := d_shows_deeds) rfl
  exact ok_shows_deeds F (He.glo_ok X G (c.fact 88 (f := .glo "shows_deeds") rfl)) (z_frs X G c) (z_check_goal X G c) (z_numbers_hold X G c) (z_deed_ends X G c) (z_is_paper X G c) (z_walked X G c) (z_is_deed X G c)
theorem z_shows_never (X : K.In h) (G : h.Ns mainGlobals mg) (c : He.SaysD fa fn K) : Has P w K mg base 7 "shows_never" ["train", "stand", "goal", "keys", "thing"] p_shows_never (He.ga K "shows_never") := by
  obtain ⟨fd, F⟩ := c.def_ 89 (d := d_shows_never) rfl
  exact ok_shows_never F (He.glo_ok X G (c.fact 89 (f := .glo "shows_never") rfl)) (z_frs X G c) (z_check_goal X G c) (z_push_ends X G c) (z_is_paper X G c) (z_is_stand X G c)
theorem z_wears (X : K.In h) (G : h.Ns mainGlobals mg) (c : He.SaysD fa fn K) : Has P w K mg base 5 "wears" ["train"] p_wears (He.ga K "wears") := by
  obtain ⟨fd, F⟩ := c.def_ 90 (d := d_wears) rfl
  exact ok_wears F (He.glo_ok X G (c.fact 90 (f := .glo "wears") rfl)) (z_frs X G c) (z_check_train X G c)
theorem z_worn (X : K.In h) (G : h.Ns mainGlobals mg) (c : He.SaysD fa fn K) : Has P w K mg base 7 "worn" ["train", "wear"] p_worn (He.ga K "worn") := by
  obtain ⟨fd, F⟩ := c.def_ 91 (d := d_worn) rfl
  exact ok_worn F (He.glo_ok X G (c.fact 91 (f := .glo "worn") rfl)) (z_frs X G c) (z_left X G c) (z_check_train X G c)
theorem z_is_show_worn (X : K.In h) (G : h.Ns mainGlobals mg) (c : He.SaysD fa fn K) : Has P w K mg base 3 "is_show_worn" ["train", "thing"] p_is_show_worn (He.ga K "is_show_worn") := by
  obtain ⟨fd, F⟩ := c.def_ 92 (d := d_is_show_worn) rfl
  exact ok_is_show_worn F (He.glo_ok X G (c.fact 92 (f := .glo "is_show_worn") rfl)) (z_frs X G c) (z_is_whole X G c) (z_is_push X G c)
theorem z_shows_just (X : K.In h) (G : h.Ns mainGlobals mg) (c : He.SaysD fa fn K) : Has P w K mg base 5 "shows_just" ["train", "stand", "shows"] p_shows_just (He.ga K "shows_just") := by
  obtain ⟨fd, F⟩ := c.def_ 93 (d := d_shows_just) rfl
  exact ok_shows_just F (He.glo_ok X G (c.fact 93 (f := .glo "shows_just") rfl)) (z_frs X G c) (z_pushed X G c)
theorem z_explained (X : K.In h) (G : h.Ns mainGlobals mg) (c : He.SaysD fa fn K) : Has P w K mg base 8 "explained" ["train", "stand", "shows"] p_explained (He.ga K "explained") := by
  obtain ⟨fd, F⟩ := c.def_ 94 (d := d_explained) rfl
  exact ok_explained F (He.glo_ok X G (c.fact 94 (f := .glo "explained") rfl)) (z_frs X G c) (z_check_stand X G c) (z_wears X G c) (z_shows_just X G c) (z_worn X G c) (z_is_show_worn X G c)
theorem z_law_draws (X : K.In h) (G : h.Ns mainGlobals mg) (c : He.SaysD fa fn K) : HasN P w K mg base 1 "_law_draws" ["_law_cell"] p_law_draws (He.ga K "_law_draws") := by
  obtain ⟨fd, F⟩ := c.def_ 95 (d := d_law_draws) rfl
  exact ok_law_draws F (He.glo_ok X G (c.fact 95 (f := .glo "_law_draws") rfl)) (z_frs X G c)
theorem z_law_next (X : K.In h) (G : h.Ns mainGlobals mg) (c : He.SaysD fa fn K) : HasL P w K mg base 1 "_law_next" ["_law_draws_here"] p_law_next (He.ga K "_law_next") := by
  obtain ⟨fd, F⟩ := c.def_ 96 (d := d_law_next) rfl
  exact ok_law_next F (He.glo_ok X G (c.fact 96 (f := .glo "_law_next") rfl)) (z_frs X G c)
theorem z_law_train (X : K.In h) (G : h.Ns mainGlobals mg) (c : He.SaysD fa fn K) : HasL P w K mg base 2 "_law_train" ["_law_draws_here"] p_law_train (He.ga K "_law_train") := by
  obtain ⟨fd, F⟩ := c.def_ 97 (d := d_law_train) rfl
  exact ok_law_train F (He.glo_ok X G (c.fact 97 (f := .glo "_law_train") rfl)) (z_frs X G c) (z_law_next X G c)
theorem z_law_stand (X : K.In h) (G : h.Ns mainGlobals mg) (c : He.SaysD fa fn K) : HasL P w K mg base 2 "_law_stand" ["_law_draws_here", "_law_train_here"] p_law_stand (He.ga K "_law_stand") := by
  obtain ⟨fd, F⟩ := c.def_ 98 (d := d_law_stand) rfl
  exact ok_law_stand F (He.glo_ok X G (c.fact 98 (f := .glo "_law_stand") rfl)) (z_frs X G c) (z_law_next X G c)
theorem z_law_seen (X : K.In h) (G : h.Ns mainGlobals mg) (c : He.SaysD fa fn K) : HasL P w K mg base 5 "_law_seen" ["_law_draws_here", "_law_train_here", "_law_stand_here", "_law_many"] p_law_seen (He.ga K "_law_seen") := by
  obtain ⟨fd, F⟩ := c.def_ 99 (d := d_law_seen) rfl
  exact ok_law_seen F (He.glo_ok X G (c.fact 99 (f := .glo "_law_seen") rfl)) (z_frs X G c) (z_pushed X G c) (z_law_next X G c)
theorem z_law_back (X : K.In h) (G : h.Ns mainGlobals mg) (c : He.SaysD fa fn K) : HasF P w K mg base 8 "_law_back" ["_law_told"] p_law_back (He.ga K "_law_back") := by
  obtain ⟨fd, F⟩ := c.def_ 100 (d := d_law_back) rfl
  exact ok_law_back F (He.glo_ok X G (c.fact 100 (f := .glo "_law_back") rfl)) (z_frs X G c) (z_show_answer X G c) (z_read_answer X G c)
theorem z_law_row_well (X : K.In h) (G : h.Ns mainGlobals mg) (c : He.SaysD fa fn K) : HasF P w K mg base 9 "_law_row_well" ["_law_train_here", "_law_stand_here", "_law_goal", "_law_keys"] p_law_row_well (He.ga K "_law_row_well") := by
  obtain ⟨fd, F⟩ := c.def_ 101 (d := d_law_row_well) rfl
  exact ok_law_row_well F (He.glo_ok X G (c.fact 101 (f := .glo "_law_row_well") rfl)) (z_frs X G c) (z_law_back X G c) (z_least_pushes X G c) (z_fewest_deeds X G c) (z_shows_row X G c) (z_shows_deeds X G c) (z_shows_never X G c) (z_read_pushes X G c) (z_read_row X G c) (z_show_pushes X G c) (z_show_row X G c)
theorem z_law_lists_well (X : K.In h) (G : h.Ns mainGlobals mg) (c : He.SaysD fa fn K) : Has P w K mg base 9 "_law_lists_well" ["_law_train_here", "_law_stand_here", "_law_row", "_law_seen_here"] p_law_lists_well (He.ga K "_law_lists_well") := by
  obtain ⟨fd, F⟩ := c.def_ 102 (d := d_law_lists_well) rfl
  exact ok_law_lists_well F (He.glo_ok X G (c.fact 102 (f := .glo "_law_lists_well") rfl)) (z_frs X G c) (z_read_train X G c) (z_read_stand X G c) (z_read_row X G c) (z_read_shown X G c) (z_show_train X G c) (z_show_stand X G c) (z_show_row X G c) (z_show_shown X G c) (z_left X G c) (z_explained X G c)
theorem z_law (X : K.In h) (G : h.Ns mainGlobals mg) (c : He.SaysD fa fn K) {f : Addr} (hfa : mg "law" = some (.ref f)) : ∃ fd : FuncData, (∀ (s : Shared) (v : Value), BindsTo s fd ⟨[v], []⟩ [("_law_script", v)]) ∧ ∀ base : Heap, FnFree P w K mg base 10 f fd ["_law_script"] (PSpS K) := by
  obtain ⟨fd, F⟩ := c.def_ 103 (d := d_law) rfl
  have e := hfa.symm.trans (He.glo_ok X G (c.fact 103 (f := .glo "law") rfl))
  cases e
  have b := FunD.bindsA (ps := ["_law_script"]) F fun _ _ _ _ _ _ us hl => match us, hl with | [_], _ => rfl
  exact ⟨fd, fun s v => b s [v] rfl, fun base => ok_law F (z_frs X G c) (z_law_draws X G c) (z_law_train X G c) (z_law_stand X G c) (z_law_seen X G c) (z_law_back X G c) (z_read_shows X G c) (z_trains_alike X G c) (z_show_shows X G c) (z_smallest X G c) (z_smallest_behind X G c) (z_law_next X G c) (z_law_row_well X G c) (z_law_lists_well X G c) (z_shows_alike X G c) (z_is_smallest X G c) (z_is_smallest_behind X G c)⟩
end
end Ct
open PySem PySem.W PySem.Calls PyProof.Rows
theorem PySem.Challenge.cw_clicktrain_k76_whole_answers_there_and_b_holds : PySem.Challenge.rw_clicktrain_k76_whole_answers_there_and_b.Holds := by
  w_on; o_law
  refine HandSHeadRun.head_any (r := OpenLaw.row PySem.Challenge.rw_clicktrain_k76_whole_answers_there_and_b) (q := view (OpenLaw.row PySem.Challenge.rw_clicktrain_k76_whole_answers_there_and_b).prog [123]) (H := Ct.hk) (ob := Ct.ob) (M := 8000) (loose := Ct.nms) (d := HandSHeadRun.topDef (OpenLaw.row PySem.Challenge.rw_clicktrain_k76_whole_answers_there_and_b).prog 123) (kwd := []) Ct.ob_eq
    (by kernel_rfl) (fun s => by kernel_rfl) Ct.run (by kernel_rfl) (by kernel_rfl) (by kernel_rfl) (by rfl) (by first | assumption | decide +kernel) (by decide +kernel) ⟨rfl, rfl, rfl, rfl, rfl, by decide +kernel⟩ ?hw ?hc
  case hw => w_witness2
  case hc =>
    refine L2.walk_free (l := PySem.Challenge.rw_clicktrain_k76_whole_answers_there_and_b) (n := 63) (k := 10) (x := "_law_script") rfl (by decide) (by kernel_rfl) ⟨rfl, by decide, by decide⟩ ?F
    intro w mg fa h Y G hmg0
    obtain ⟨K, KX, c⟩ := Y
    have hmg : mg ("law" : PySem.Str) = some (.ref fa) := by
      have e : (HandSHeadRun.topDef (OpenLaw.row PySem.Challenge.rw_clicktrain_k76_whole_answers_there_and_b).prog 123).name = ("law" : PySem.Str) := by kernel_rfl
      rw [← e]
      exact hmg0
    obtain ⟨fd, hb, hF⟩ := Ct.z_law (P := (PySem.Challenge.rw_clicktrain_k76_whole_answers_there_and_b).prog) (w := w) KX G c hmg
    exact ⟨K, fd, Ct.PSpS K, KX, hb, fun H a ns hl _ hS => ⟨a, ns, rfl, hl, hS, fun _ => rfl⟩, fun base _ _ => hF base⟩

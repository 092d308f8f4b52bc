import PyProof.Rows.All
import PySem.Challenge.RW_drycells_k42_whole_always_hidden_or_boun
import Wide.All
import OpenK.AllK
import Wide.FinOn
import KE.KStateDown
import HandS.ForMost
import HandS.ForExc
import HandS.Defaults
import HandS.Head0
import HandS.Head1
import HandS.Head2
import HandS.HeadEnd
import HandS.HeadHook1
import HandS.HeadHook2
import HandS.HeadHook3
import HandS.HeadHook4
import HandS.Walk
import HandS.Zip
import HandS.TupAny
import HandS.Flow
import HandS.IsInst
import HandS.Style
import HandS.TupMul
import KE.GoesMore
import KE.GoesEnum
import PyProof.SumAny
import KE.SortData
import KE.DataMinMax
import HandS.Exc
import HandS.ExcOwn
import HandS.TryOnly
import HandS.WordsExc
import HandS.CallLocal
import PyProof.ExcBaseAll.ValueError
import HandS.Dict
import HandS.Small
import HandS.Iter
import HandS.TupLen
import KE.KDictDisplayH
set_option Elab.async false
set_option linter.all false
set_option maxRecDepth 100000
set_option maxHeartbeats 0
namespace Dry
open PySem PySem.Spec PyProof.Rows L2
def top (i : Nat) : Stmt := PySem.Challenge.pw_drycells_k42_whole_always_hidden_or_boun.main.body.getD i (.Pass ⟨0, 0, 0, 0⟩)
abbrev s_tupled : Stmt := top 4
abbrev s_is_number : Stmt := top 5
abbrev s_is_count : Stmt := top 6
abbrev s_is_below : Stmt := top 7
abbrev s_is_tuple_of : Stmt := top 8
abbrev s_ascends : Stmt := top 9
abbrev s_is_number_set : Stmt := top 10
abbrev s_is_prime : Stmt := top 13
abbrev s_is_row : Stmt := top 14
abbrev s_inverse_digit : Stmt := top 15
abbrev s_unit_row : Stmt := top 16
abbrev s_fit_lengths : Stmt := top 17
abbrev s_row_less : Stmt := top 18
abbrev s_row_times : Stmt := top 19
abbrev s_row_product : Stmt := top 20
abbrev s_marked_places : Stmt := top 21
abbrev s_led_row : Stmt := top 22
abbrev s_fit_rows : Stmt := top 24
abbrev s_place_led : Stmt := top 25
abbrev s_less_at : Stmt := top 26
abbrev s_with_row : Stmt := top 27
abbrev s_leads_of : Stmt := top 28
abbrev s_unmarked_rows : Stmt := top 29
abbrev s_are_rows_of : Stmt := top 31
abbrev s_is_key : Stmt := top 32
abbrev s_is_message : Stmt := top 33
abbrev s_sure_like : Stmt := top 34
abbrev s_sure_kin : Stmt := top 35
abbrev s_stacked : Stmt := top 36
abbrev s_sure_keys : Stmt := top 38
abbrev s_lot_of_keys : Stmt := top 39
abbrev s_in_one : Stmt := top 40
abbrev s_one_row : Stmt := top 41
abbrev s_parted : Stmt := top 42
abbrev s_is_joint_row : Stmt := top 43
abbrev s_columns_beside : Stmt := top 44
abbrev s_marks_none : Stmt := top 45
abbrev s_bindings_of : Stmt := top 46
abbrev s_binding : Stmt := top 47
abbrev s_is_binding : Stmt := top 48
abbrev s_always_all : Stmt := top 49
abbrev s_loud_in : Stmt := top 50
abbrev s_always_quiet : Stmt := top 51
abbrev s_loud_binding : Stmt := top 52
abbrev s_l_box : Stmt := top 54
abbrev s_l_take : Stmt := top 55
abbrev s_l_cells : Stmt := top 56
abbrev s_l_of : Stmt := top 57
abbrev s_l_pick : Stmt := top 58
abbrev s_l_lists : Stmt := top 59
abbrev s_l_same : Stmt := top 60
abbrev s_l_is_number : Stmt := top 61
abbrev s_l_put : Stmt := top 62
abbrev s_l_greys : Stmt := top 63
abbrev s_l_shaped : Stmt := top 64
abbrev s_l_rests : Stmt := top 65
abbrev s_l_row_plus : Stmt := top 66
abbrev s_l_row_times : Stmt := top 67
abbrev s_l_product : Stmt := top 68
abbrev s_l_all_rows : Stmt := top 69
abbrev s_l_read : Stmt := top 70
abbrev s_l_reading : Stmt := top 71
abbrev s_l_grey_for : Stmt := top 72
abbrev s_l_price : Stmt := top 73
abbrev s_l_least_costs : Stmt := top 74
abbrev s_l_is_digits : Stmt := top 75
abbrev s_l_picture : Stmt := top 76
abbrev s_l_prices : Stmt := top 77
abbrev s_l_key : Stmt := top 78
abbrev s_l_band_key : Stmt := top 79
abbrev s_l_message : Stmt := top 80
abbrev s_l_stacked : Stmt := top 81
abbrev s_l_parted : Stmt := top 82
abbrev s_l_hands : Stmt := top 83
abbrev s_l_scene : Stmt := top 84
abbrev s_l_joint_mark : Stmt := top 85
abbrev s_l_is_joint : Stmt := top 86
abbrev s_l_is_binding : Stmt := top 87
abbrev s_l_park : Stmt := top 88
abbrev s_l_heard : Stmt := top 89
abbrev s_l_by_hand_right : Stmt := top 90
abbrev s_l_quiet_so : Stmt := top 91
abbrev s_l_right : Stmt := top 92
abbrev s_law : Stmt := top 93
end Dry

set_option Elab.async false
set_option linter.all false
set_option maxRecDepth 100000
set_option maxHeartbeats 0
namespace Dry
open PySem PySem.Spec PyProof.Rows L2
def d_tupled : He.DefD := ⟨("tupled", none), "tupled", "tupled", defArgs s_tupled, defBody s_tupled, defScope s_tupled, [], []⟩
def d_is_number : He.DefD := ⟨("is_number", none), "is_number", "is_number", defArgs s_is_number, defBody s_is_number, defScope s_is_number, [], []⟩
def d_is_count : He.DefD := ⟨("is_count", none), "is_count", "is_count", defArgs s_is_count, defBody s_is_count, defScope s_is_count, [], []⟩
def d_is_below : He.DefD := ⟨("is_below", none), "is_below", "is_below", defArgs s_is_below, defBody s_is_below, defScope s_is_below, [], []⟩
def d_is_tuple_of : He.DefD := ⟨("is_tuple_of", none), "is_tuple_of", "is_tuple_of", defArgs s_is_tuple_of, defBody s_is_tuple_of, defScope s_is_tuple_of, [], []⟩
def d_ascends : He.DefD := ⟨("ascends", none), "ascends", "ascends", defArgs s_ascends, defBody s_ascends, defScope s_ascends, [], []⟩
def d_is_number_set : He.DefD := ⟨("is_number_set", none), "is_number_set", "is_number_set", defArgs s_is_number_set, defBody s_is_number_set, defScope s_is_number_set, [], []⟩
def d_is_prime : He.DefD := ⟨("is_prime", none), "is_prime", "is_prime", defArgs s_is_prime, defBody s_is_prime, defScope s_is_prime, [], []⟩
def d_is_row : He.DefD := ⟨("is_row", none), "is_row", "is_row", defArgs s_is_row, defBody s_is_row, defScope s_is_row, [], []⟩
def d_inverse_digit : He.DefD := ⟨("inverse_digit", none), "inverse_digit", "inverse_digit", defArgs s_inverse_digit, defBody s_inverse_digit, defScope s_inverse_digit, [], []⟩
def d_unit_row : He.DefD := ⟨("unit_row", none), "unit_row", "unit_row", defArgs s_unit_row, defBody s_unit_row, defScope s_unit_row, [], []⟩
def d_fit_lengths : He.DefD := ⟨("fit_lengths", none), "fit_lengths", "fit_lengths", defArgs s_fit_lengths, defBody s_fit_lengths, defScope s_fit_lengths, [], []⟩
def d_row_less : He.DefD := ⟨("row_less", none), "row_less", "row_less", defArgs s_row_less, defBody s_row_less, defScope s_row_less, [], []⟩
def d_row_times : He.DefD := ⟨("row_times", none), "row_times", "row_times", defArgs s_row_times, defBody s_row_times, defScope s_row_times, [], []⟩
def d_row_product : He.DefD := ⟨("row_product", none), "row_product", "row_product", defArgs s_row_product, defBody s_row_product, defScope s_row_product, [], []⟩
def d_marked_places : He.DefD := ⟨("marked_places", none), "marked_places", "marked_places", defArgs s_marked_places, defBody s_marked_places, defScope s_marked_places, [], []⟩
def d_led_row : He.DefD := ⟨("led_row", none), "led_row", "led_row", defArgs s_led_row, defBody s_led_row, defScope s_led_row, [], []⟩
def d_fit_rows : He.DefD := ⟨("fit_rows", none), "fit_rows", "fit_rows", defArgs s_fit_rows, defBody s_fit_rows, defScope s_fit_rows, [], []⟩
def d_place_led : He.DefD := ⟨("place_led", none), "place_led", "place_led", defArgs s_place_led, defBody s_place_led, defScope s_place_led, [], []⟩
def d_less_at : He.DefD := ⟨("less_at", none), "less_at", "less_at", defArgs s_less_at, defBody s_less_at, defScope s_less_at, [], []⟩
def d_with_row : He.DefD := ⟨("with_row", none), "with_row", "with_row", defArgs s_with_row, defBody s_with_row, defScope s_with_row, [], []⟩
def d_leads_of : He.DefD := ⟨("leads_of", none), "leads_of", "leads_of", defArgs s_leads_of, defBody s_leads_of, defScope s_leads_of, [], []⟩
def d_unmarked_rows : He.DefD := ⟨("unmarked_rows", none), "unmarked_rows", "unmarked_rows", defArgs s_unmarked_rows, defBody s_unmarked_rows, defScope s_unmarked_rows, [], []⟩
def d_are_rows_of : He.DefD := ⟨("are_rows_of", none), "are_rows_of", "are_rows_of", defArgs s_are_rows_of, defBody s_are_rows_of, defScope s_are_rows_of, [], []⟩
def d_is_key : He.DefD := ⟨("is_key", none), "is_key", "is_key", defArgs s_is_key, defBody s_is_key, defScope s_is_key, [], []⟩
def d_is_message : He.DefD := ⟨("is_message", none), "is_message", "is_message", defArgs s_is_message, defBody s_is_message, defScope s_is_message, [], []⟩
def d_sure_like : He.DefD := ⟨("sure_like", none), "sure_like", "sure_like", defArgs s_sure_like, defBody s_sure_like, defScope s_sure_like, [], []⟩
def d_sure_kin : He.DefD := ⟨("sure_kin", none), "sure_kin", "sure_kin", defArgs s_sure_kin, defBody s_sure_kin, defScope s_sure_kin, [], []⟩
def d_stacked : He.DefD := ⟨("stacked", none), "stacked", "stacked", defArgs s_stacked, defBody s_stacked, defScope s_stacked, [], []⟩
def d_sure_keys : He.DefD := ⟨("sure_keys", none), "sure_keys", "sure_keys", defArgs s_sure_keys, defBody s_sure_keys, defScope s_sure_keys, [], []⟩
def d_lot_of_keys : He.DefD := ⟨("lot_of_keys", none), "lot_of_keys", "lot_of_keys", defArgs s_lot_of_keys, defBody s_lot_of_keys, defScope s_lot_of_keys, [], []⟩
def d_in_one : He.DefD := ⟨("in_one", none), "in_one", "in_one", defArgs s_in_one, defBody s_in_one, defScope s_in_one, [], []⟩
def d_one_row : He.DefD := ⟨("one_row", none), "one_row", "one_row", defArgs s_one_row, defBody s_one_row, defScope s_one_row, [], []⟩
def d_parted : He.DefD := ⟨("parted", none), "parted", "parted", defArgs s_parted, defBody s_parted, defScope s_parted, [], []⟩
def d_is_joint_row : He.DefD := ⟨("is_joint_row", none), "is_joint_row", "is_joint_row", defArgs s_is_joint_row, defBody s_is_joint_row, defScope s_is_joint_row, [], []⟩
def d_columns_beside : He.DefD := ⟨("columns_beside", none), "columns_beside", "columns_beside", defArgs s_columns_beside, defBody s_columns_beside, defScope s_columns_beside, [], []⟩
def d_marks_none : He.DefD := ⟨("marks_none", none), "marks_none", "marks_none", defArgs s_marks_none, defBody s_marks_none, defScope s_marks_none, [], []⟩
def d_bindings_of : He.DefD := ⟨("bindings_of", none), "bindings_of", "bindings_of", defArgs s_bindings_of, defBody s_bindings_of, defScope s_bindings_of, [], []⟩
def d_binding : He.DefD := ⟨("binding", none), "binding", "binding", defArgs s_binding, defBody s_binding, defScope s_binding, [], []⟩
def d_is_binding : He.DefD := ⟨("is_binding", none), "is_binding", "is_binding", defArgs s_is_binding, defBody s_is_binding, defScope s_is_binding, [], []⟩
def d_always_all : He.DefD := ⟨("always_all", none), "always_all", "always_all", defArgs s_always_all, defBody s_always_all, defScope s_always_all, [], []⟩
def d_loud_in : He.DefD := ⟨("loud_in", none), "loud_in", "loud_in", defArgs s_loud_in, defBody s_loud_in, defScope s_loud_in, [], []⟩
def d_always_quiet : He.DefD := ⟨("always_quiet", none), "always_quiet", "always_quiet", defArgs s_always_quiet, defBody s_always_quiet, defScope s_always_quiet, [], []⟩
def d_loud_binding : He.DefD := ⟨("loud_binding", none), "loud_binding", "loud_binding", defArgs s_loud_binding, defBody s_loud_binding, defScope s_loud_binding, [], []⟩
def d_l_box : He.DefD := ⟨("_law_box", none), "_law_box", "_law_box", defArgs s_l_box, defBody s_l_box, defScope s_l_box, [], []⟩
def d_l_take : He.DefD := ⟨("_law_take", none), "_law_take", "_law_take", defArgs s_l_take, defBody s_l_take, defScope s_l_take, [], []⟩
def d_l_cells : He.DefD := ⟨("_law_cells", none), "_law_cells", "_law_cells", defArgs s_l_cells, defBody s_l_cells, defScope s_l_cells, [], []⟩
def d_l_of : He.DefD := ⟨("_law_of", none), "_law_of", "_law_of", defArgs s_l_of, defBody s_l_of, defScope s_l_of, [], []⟩
def d_l_pick : He.DefD := ⟨("_law_pick", none), "_law_pick", "_law_pick", defArgs s_l_pick, defBody s_l_pick, defScope s_l_pick, [], []⟩
def d_l_lists : He.DefD := ⟨("_law_lists", none), "_law_lists", "_law_lists", defArgs s_l_lists, defBody s_l_lists, defScope s_l_lists, [], []⟩
def d_l_same : He.DefD := ⟨("_law_same", none), "_law_same", "_law_same", defArgs s_l_same, defBody s_l_same, defScope s_l_same, [], []⟩
def d_l_is_number : He.DefD := ⟨("_law_is_number", none), "_law_is_number", "_law_is_number", defArgs s_l_is_number, defBody s_l_is_number, defScope s_l_is_number, [], []⟩
def d_l_put : He.DefD := ⟨("_law_put", none), "_law_put", "_law_put", defArgs s_l_put, defBody s_l_put, defScope s_l_put, [], []⟩
def d_l_greys : He.DefD := ⟨("_law_greys", none), "_law_greys", "_law_greys", defArgs s_l_greys, defBody s_l_greys, defScope s_l_greys, [], []⟩
def d_l_shaped : He.DefD := ⟨("_law_shaped", none), "_law_shaped", "_law_shaped", defArgs s_l_shaped, defBody s_l_shaped, defScope s_l_shaped, [], []⟩
def d_l_rests : He.DefD := ⟨("_law_rests", none), "_law_rests", "_law_rests", defArgs s_l_rests, defBody s_l_rests, defScope s_l_rests, [], []⟩
def d_l_row_plus : He.DefD := ⟨("_law_row_plus", none), "_law_row_plus", "_law_row_plus", defArgs s_l_row_plus, defBody s_l_row_plus, defScope s_l_row_plus, [], []⟩
def d_l_row_times : He.DefD := ⟨("_law_row_times", none), "_law_row_times", "_law_row_times", defArgs s_l_row_times, defBody s_l_row_times, defScope s_l_row_times, [], []⟩
def d_l_product : He.DefD := ⟨("_law_product", none), "_law_product", "_law_product", defArgs s_l_product, defBody s_l_product, defScope s_l_product, [], []⟩
def d_l_all_rows : He.DefD := ⟨("_law_all_rows", none), "_law_all_rows", "_law_all_rows", defArgs s_l_all_rows, defBody s_l_all_rows, defScope s_l_all_rows, [], []⟩
def d_l_read : He.DefD := ⟨("_law_read", none), "_law_read", "_law_read", defArgs s_l_read, defBody s_l_read, defScope s_l_read, [], []⟩
def d_l_reading : He.DefD := ⟨("_law_reading", none), "_law_reading", "_law_reading", defArgs s_l_reading, defBody s_l_reading, defScope s_l_reading, [], []⟩
def d_l_grey_for : He.DefD := ⟨("_law_grey_for", none), "_law_grey_for", "_law_grey_for", defArgs s_l_grey_for, defBody s_l_grey_for, defScope s_l_grey_for, [], []⟩
def d_l_price : He.DefD := ⟨("_law_price", none), "_law_price", "_law_price", defArgs s_l_price, defBody s_l_price, defScope s_l_price, [], []⟩
def d_l_least_costs : He.DefD := ⟨("_law_least_costs", none), "_law_least_costs", "_law_least_costs", defArgs s_l_least_costs, defBody s_l_least_costs, defScope s_l_least_costs, [], []⟩
def d_l_is_digits : He.DefD := ⟨("_law_is_digits", none), "_law_is_digits", "_law_is_digits", defArgs s_l_is_digits, defBody s_l_is_digits, defScope s_l_is_digits, [], []⟩
def d_l_picture : He.DefD := ⟨("_law_picture", none), "_law_picture", "_law_picture", defArgs s_l_picture, defBody s_l_picture, defScope s_l_picture, [], []⟩
def d_l_prices : He.DefD := ⟨("_law_prices", none), "_law_prices", "_law_prices", defArgs s_l_prices, defBody s_l_prices, defScope s_l_prices, [], []⟩
def d_l_key : He.DefD := ⟨("_law_key", none), "_law_key", "_law_key", defArgs s_l_key, defBody s_l_key, defScope s_l_key, [], []⟩
def d_l_band_key : He.DefD := ⟨("_law_band_key", none), "_law_band_key", "_law_band_key", defArgs s_l_band_key, defBody s_l_band_key, defScope s_l_band_key, [], []⟩
def d_l_message : He.DefD := ⟨("_law_message", none), "_law_message", "_law_message", defArgs s_l_message, defBody s_l_message, defScope s_l_message, [], []⟩
def d_l_stacked : He.DefD := ⟨("_law_stacked", none), "_law_stacked", "_law_stacked", defArgs s_l_stacked, defBody s_l_stacked, defScope s_l_stacked, [], []⟩
def d_l_parted : He.DefD := ⟨("_law_parted", none), "_law_parted", "_law_parted", defArgs s_l_parted, defBody s_l_parted, defScope s_l_parted, [], []⟩
def d_l_hands : He.DefD := ⟨("_law_hands", none), "_law_hands", "_law_hands", defArgs s_l_hands, defBody s_l_hands, defScope s_l_hands, [], []⟩
def d_l_scene : He.DefD := ⟨("_law_scene", none), "_law_scene", "_law_scene", defArgs s_l_scene, defBody s_l_scene, defScope s_l_scene, [], []⟩
def d_l_joint_mark : He.DefD := ⟨("_law_joint_mark", none), "_law_joint_mark", "_law_joint_mark", defArgs s_l_joint_mark, defBody s_l_joint_mark, defScope s_l_joint_mark, [], []⟩
def d_l_is_joint : He.DefD := ⟨("_law_is_joint", none), "_law_is_joint", "_law_is_joint", defArgs s_l_is_joint, defBody s_l_is_joint, defScope s_l_is_joint, [], []⟩
def d_l_is_binding : He.DefD := ⟨("_law_is_binding", none), "_law_is_binding", "_law_is_binding", defArgs s_l_is_binding, defBody s_l_is_binding, defScope s_l_is_binding, [], []⟩
def d_l_park : He.DefD := ⟨("_law_park", none), "_law_park", "_law_park", defArgs s_l_park, defBody s_l_park, defScope s_l_park, [], []⟩
def d_l_heard : He.DefD := ⟨("_law_heard", none), "_law_heard", "_law_heard", defArgs s_l_heard, defBody s_l_heard, defScope s_l_heard, [], []⟩
def d_l_by_hand_right : He.DefD := ⟨("_law_by_hand_right", none), "_law_by_hand_right", "_law_by_hand_right", defArgs s_l_by_hand_right, defBody s_l_by_hand_right, defScope s_l_by_hand_right, [], []⟩
def d_l_quiet_so : He.DefD := ⟨("_law_quiet_so", none), "_law_quiet_so", "_law_quiet_so", defArgs s_l_quiet_so, defBody s_l_quiet_so, defScope s_l_quiet_so, [], []⟩
def d_l_right : He.DefD := ⟨("_law_right", none), "_law_right", "_law_right", defArgs s_l_right, defBody s_l_right, defScope s_l_right, [], []⟩
def d_law : He.DefD := ⟨("law", none), "law", "law", defArgs s_law, defBody s_law, defScope s_law, [], []⟩
def fn0 : List He.DefD := [d_tupled, d_is_number, d_is_count, d_is_below, d_is_tuple_of, d_ascends, d_is_number_set, d_is_prime, d_is_row, d_inverse_digit, d_unit_row, d_fit_lengths, d_row_less, d_row_times, d_row_product, d_marked_places, d_led_row, d_fit_rows, d_place_led, d_less_at, d_with_row, d_leads_of, d_unmarked_rows, d_are_rows_of, d_is_key, d_is_message, d_sure_like, d_sure_kin, d_stacked, d_sure_keys]
def fn1 : List He.DefD := [d_lot_of_keys, d_in_one, d_one_row, d_parted, d_is_joint_row, d_columns_beside, d_marks_none, d_bindings_of, d_binding, d_is_binding, d_always_all, d_loud_in, d_always_quiet, d_loud_binding, d_l_box, d_l_take, d_l_cells, d_l_of, d_l_pick, d_l_lists, d_l_same, d_l_is_number, d_l_put, d_l_greys, d_l_shaped, d_l_rests, d_l_row_plus, d_l_row_times, d_l_product, d_l_all_rows]
def fn2 : List He.DefD := [d_l_read, d_l_reading, d_l_grey_for, d_l_price, d_l_least_costs, d_l_is_digits, d_l_picture, d_l_prices, d_l_key, d_l_band_key, d_l_message, d_l_stacked, d_l_parted, d_l_hands, d_l_scene, d_l_joint_mark, d_l_is_joint, d_l_is_binding, d_l_park, d_l_heard, d_l_by_hand_right, d_l_quiet_so, d_l_right, d_law]
def fn : List He.DefD := fn0 ++ fn1 ++ fn2
def fa0 : List He.Fa := [.glo "tupled", .glo "is_number", .glo "is_count", .glo "is_below", .glo "is_tuple_of", .glo "ascends", .glo "is_number_set", .glo "is_prime", .glo "is_row", .glo "inverse_digit", .glo "unit_row", .glo "fit_lengths", .glo "row_less", .glo "row_times", .glo "row_product", .glo "marked_places", .glo "led_row", .glo "fit_rows", .glo "place_led", .glo "less_at", .glo "with_row", .glo "leads_of", .glo "unmarked_rows", .glo "are_rows_of", .glo "is_key", .glo "is_message", .glo "sure_like", .glo "sure_kin", .glo "stacked", .glo "sure_keys"]
def fa1 : List He.Fa := [.glo "lot_of_keys", .glo "in_one", .glo "one_row", .glo "parted", .glo "is_joint_row", .glo "columns_beside", .glo "marks_none", .glo "bindings_of", .glo "binding", .glo "is_binding", .glo "always_all", .glo "loud_in", .glo "always_quiet", .glo "loud_binding", .glo "_law_box", .glo "_law_take", .glo "_law_cells", .glo "_law_of", .glo "_law_pick", .glo "_law_lists", .glo "_law_same", .glo "_law_is_number", .glo "_law_put", .glo "_law_greys", .glo "_law_shaped", .glo "_law_rests", .glo "_law_row_plus", .glo "_law_row_times", .glo "_law_product", .glo "_law_all_rows"]
def fa2 : List He.Fa := [.glo "_law_read", .glo "_law_reading", .glo "_law_grey_for", .glo "_law_price", .glo "_law_least_costs", .glo "_law_is_digits", .glo "_law_picture", .glo "_law_prices", .glo "_law_key", .glo "_law_band_key", .glo "_law_message", .glo "_law_stacked", .glo "_law_parted", .glo "_law_hands", .glo "_law_scene", .glo "_law_joint_mark", .glo "_law_is_joint", .glo "_law_is_binding", .glo "_law_park", .glo "_law_heard", .glo "_law_by_hand_right", .glo "_law_quiet_so", .glo "_law_right", .glo "law", .glo "PRIMES", .glo "NoPaper", .exc "NoPaper", .exm "NoPaper" "NoPaper" true, .free "ValueError", .free "abs"]
def fa3 : List He.Fa := [.free "all", .free "any", .free "bool", .free "enumerate", .free "int", .free "isinstance", .free "len", .free "list", .free "min", .free "range", .free "sorted", .free "str", .free "sum", .free "tuple", .free "zip"]
def fa : List He.Fa := fa0 ++ fa1 ++ fa2 ++ fa3
def loose0 : List Str := ["Unfit", "NoPaper", "tupled", "is_number", "is_count", "is_below", "is_tuple_of", "ascends", "is_number_set", "PRIMES", "is_prime", "is_row", "inverse_digit", "unit_row", "fit_lengths", "row_less", "row_times", "row_product", "marked_places", "led_row", "fit_rows", "place_led", "less_at", "with_row", "leads_of", "unmarked_rows", "are_rows_of", "is_key", "is_message", "sure_like"]
def loose1 : List Str := ["sure_kin", "stacked", "sure_keys", "lot_of_keys", "in_one", "one_row", "parted", "is_joint_row", "columns_beside", "marks_none", "bindings_of", "binding", "is_binding", "always_all", "loud_in", "always_quiet", "loud_binding", "_law_box", "_law_take", "_law_cells", "_law_of", "_law_pick", "_law_lists", "_law_same", "_law_is_number", "_law_put", "_law_greys", "_law_shaped", "_law_rests", "_law_row_plus"]
def loose2 : List Str := ["_law_row_times", "_law_product", "_law_all_rows", "_law_read", "_law_reading", "_law_grey_for", "_law_price", "_law_least_costs", "_law_is_digits", "_law_picture", "_law_prices", "_law_key", "_law_band_key", "_law_message", "_law_stacked", "_law_parted", "_law_hands", "_law_scene", "_law_joint_mark", "_law_is_joint", "_law_is_binding", "_law_park", "_law_heard", "_law_by_hand_right", "_law_quiet_so", "_law_right"]
def loose : List Str := loose0 ++ loose1 ++ loose2
def exB (K : PySem.W.Frag) : Bool := He.tupB K "PRIMES" [.int 2, .int 3, .int 5]
abbrev R : PySem.W.OpenRow := PySem.W.OpenLaw.row PySem.Challenge.rw_drycells_k42_whole_always_hidden_or_boun
abbrev hk : PySem.W.Hook := He.hookX 2 fa fn [] [] exB
def ob (s : PySem.W.SharedT) : He.AlX := He.obsX 2 fa fn [] [] exB (HandSHeadRun.getT s)
theorem ob_eq (s : PySem.W.SharedT) : ob s = hk.obs s.abs := He.obsX_eq (HandSHeadRun.getT_eq s)
theorem run (w : World) : HandSHeadRun.RunEq R (PySem.W.view R.prog [93]) hk ob 8000 loose w := by
  intro os
  kernel_rfl
end Dry

set_option Elab.async false
set_option linter.all false
set_option maxRecDepth 100000
set_option maxHeartbeats 4000000
namespace Dry
open PySem PySem.Spec PyProof.Rows L2

/-! ### what is known of the heap -/
def Ex (H H' : Hp) : Prop := ∀ a o, H a = some o → H' a = some o
theorem Ex.refl (H : Hp) : Ex H H := fun _ _ h => h
theorem Ex.trans {H H1 H2 : Hp} (a : Ex H H1) (b : Ex H1 H2) : Ex H H2 := fun x o h => b x o (a x o h)
theorem Ex.new {H : Hp} {p : Addr} {o : HO} (h : H p = none) : Ex H (upd H p o) := fun a u e => by
  rw [upd_ne (ne_of_none e h)]
  exact e
theorem Ex.free {H H' : Hp} (e : Ex H H') {l : Addr} (h : H' l = none) : H l = none := by
  cases q : H l with
  | none => rfl
  | some o =>
    rw [e l o q] at h
    cases h
theorem Ex.live {H H' : Hp} (e : Ex H H') {l : Addr} (h : H l ≠ none) : H' l ≠ none := fun z => h (e.free z)
theorem Ex.rd {H H' : Hp} {a : Addr} {u : HO} (e : Ex H H') (h : Rd H a u) : Rd H' a u := by
  rcases h with h | ⟨o, h⟩
  · exact .inl (e a _ h)
  · exact .inr ⟨o, e a _ h⟩
section
variable {K : PySem.W.Frag} {H H' : Hp}
theorem Ex.l {a : Addr} {xs : List V} (e : Ex H H') (h : SqL K H a xs) : SqL K H' a xs := by
  rcases h with h | h
  · exact .inl (e.rd h)
  · exact .inr h
theorem Ex.t {a : Addr} {xs : List V} (e : Ex H H') (h : H a = some (.tup xs)) : SqT K H' a xs := SqT.of (e _ _ h)
end
mutual
/-- a value stands for data; lists are tracked -/
inductive Rp (K : PySem.W.Frag) (H : Hp) : V → PyData → Prop
  | non : Rp K H .non .none
  | bl (b : Bool) : Rp K H (.bl b) (.bool b)
  | int (i : Int) : Rp K H (.int i) (.int i)
  | str (x : Str) : Rp K H (.str x) (.str x)
  | lst {a : Addr} {xs : List V} {ds : List PyData} : H a = some (.lst xs) → RpAll K H xs ds → Rp K H (.ref a) (.list ds)
  | tup {a : Addr} {xs : List V} {ds : List PyData} : H a = some (.tup xs) → RpAll K H xs ds → Rp K H (.ref a) (.tuple ds)
inductive RpAll (K : PySem.W.Frag) (H : Hp) : List V → List PyData → Prop
  | nil : RpAll K H [] []
  | cons {v : V} {vs : List V} {d : PyData} {ds : List PyData} : Rp K H v d → RpAll K H vs ds → RpAll K H (v :: vs) (d :: ds)
end
section
variable {K : PySem.W.Frag} {H H' : Hp}
mutual
theorem dp_up (e : Ex H H') : ∀ {v : V} {d : PyData}, Rp K H v d → Rp K H' v d
  | _, _, .non => .non
  | _, _, .bl b => .bl b
  | _, _, .int i => .int i
  | _, _, .str x => .str x
  | _, _, .lst h1 h2 => .lst (e _ _ h1) (dpa_up e h2)
  | _, _, .tup h1 h2 => .tup (e _ _ h1) (dpa_up e h2)
theorem dpa_up (e : Ex H H') : ∀ {vs : List V} {ds : List PyData}, RpAll K H vs ds → RpAll K H' vs ds
  | _, _, .nil => .nil
  | _, _, .cons h1 h2 => .cons (dp_up e h1) (dpa_up e h2)
end
mutual
theorem rp_dp : ∀ {v : V} {d : PyData}, Rp K H v d → Dp K H v d
  | _, _, .non => .non
  | _, _, .bl b => .bl b
  | _, _, .int i => .int i
  | _, _, .str x => .str x
  | _, _, .lst h1 h2 => .lst (SqL.of h1) (rpa_dpa h2)
  | _, _, .tup h1 h2 => .tup (SqT.of h1) (rpa_dpa h2)
theorem rpa_dpa : ∀ {vs : List V} {ds : List PyData}, RpAll K H vs ds → DpAll K H vs ds
  | _, _, .nil => .nil
  | _, _, .cons h1 h2 => .cons (rp_dp h1) (rpa_dpa h2)
end
theorem dpa_len : ∀ {vs : List V} {ds : List PyData}, RpAll K H vs ds → vs.length = ds.length
  | _, _, .nil => rfl
  | _, _, .cons _ h => congrArg Nat.succ (dpa_len h)
theorem dpa_get : ∀ {vs : List V} {ds : List PyData} {i : Nat} {d : PyData}, RpAll K H vs ds → ds[i]? = some d → ∃ v, vs[i]? = some v ∧ Rp K H v d
  | _, _, _, _, .nil, e => by simp at e
  | _, _, 0, _, .cons h _, e => by simp at e; subst e; exact ⟨_, rfl, h⟩
  | _, _, i + 1, d, .cons _ t, e => by
    obtain ⟨v, h1, h2⟩ := dpa_get (i := i) (d := d) t (by simpa using e)
    exact ⟨v, by simpa using h1, h2⟩
theorem dpa_get' : ∀ {vs : List V} {ds : List PyData} {i : Nat} {v : V}, RpAll K H vs ds → vs[i]? = some v → ∃ d, ds[i]? = some d ∧ Rp K H v d
  | _, _, _, _, .nil, e => by simp at e
  | _, _, 0, _, .cons h _, e => by simp at e; subst e; exact ⟨_, rfl, h⟩
  | _, _, i + 1, d, .cons _ t, e => by
    obtain ⟨v, h1, h2⟩ := dpa_get' (i := i) t (by simpa using e)
    exact ⟨v, by simpa using h1, h2⟩
theorem dpa_append : ∀ {vs ws : List V} {ds es : List PyData}, RpAll K H vs ds → RpAll K H ws es → RpAll K H (vs ++ ws) (ds ++ es)
  | _, _, _, _, .nil, s => s
  | _, _, _, _, .cons r t, s => .cons r (dpa_append t s)
theorem dpa_take : ∀ {vs : List V} {ds : List PyData} (n : Nat), RpAll K H vs ds → RpAll K H (vs.take n) (ds.take n)
  | _, _, 0, _ => .nil
  | _, _, _ + 1, .nil => .nil
  | _, _, n + 1, .cons r t => .cons r (dpa_take n t)
theorem dpa_drop : ∀ {vs : List V} {ds : List PyData} (n : Nat), RpAll K H vs ds → RpAll K H (vs.drop n) (ds.drop n)
  | _, _, 0, h => h
  | _, _, _ + 1, .nil => .nil
  | _, _, n + 1, .cons _ t => dpa_drop n t
theorem dpa_set {v : V} {d : PyData} (r : Rp K H v d) : ∀ {vs : List V} {ds : List PyData} (i : Nat), RpAll K H vs ds → RpAll K H (vs.set i v) (ds.set i d)
  | _, _, _, .nil => .nil
  | _, _, 0, .cons _ t => .cons r t
  | _, _, i + 1, .cons q t => .cons q (dpa_set r i t)
theorem dpa_rev {vs : List V} {ds : List PyData} (h : RpAll K H vs ds) : RpAll K H vs.reverse ds.reverse := by
  induction vs generalizing ds with
  | nil => cases h; exact .nil
  | cons v vs ih =>
    cases h with
    | cons h1 h2 =>
      rw [List.reverse_cons, List.reverse_cons]
      exact dpa_append (ih h2) (.cons h1 .nil)
theorem dpa_ints : ∀ {vs : List V} {ns : List Int}, RpAll K H vs (ns.map PyData.int) → vs = ns.map V.int
  | [], [], _ => rfl
  | _ :: _, [], h => nomatch h
  | [], _ :: _, h => nomatch h
  | v :: vs, n :: ns, h => by
    cases h with
    | cons h1 h2 =>
      cases h1
      rw [dpa_ints h2, List.map_cons]
theorem dpa_bools : ∀ {vs : List V} {ns : List Bool}, RpAll K H vs (ns.map PyData.bool) → vs = ns.map V.bl
  | [], [], _ => rfl
  | _ :: _, [], h => nomatch h
  | [], _ :: _, h => nomatch h
  | v :: vs, n :: ns, h => by
    cases h with
    | cons h1 h2 =>
      cases h1
      rw [dpa_bools h2, List.map_cons]
theorem dpa_rep {v : V} {d : PyData} (h : Rp K H v d) : ∀ n : Nat, RpAll K H (List.replicate n v) (List.replicate n d)
  | 0 => .nil
  | n + 1 => .cons h (dpa_rep h n)
theorem dpa_of_forall : ∀ {vs : List V} {ds : List PyData}, vs.length = ds.length → (∀ (i : Nat) v d, vs[i]? = some v → ds[i]? = some d → Rp K H v d) → RpAll K H vs ds
  | [], [], _, _ => .nil
  | [], _ :: _, h, _ => by simp at h
  | _ :: _, [], h, _ => by simp at h
  | v :: vs, d :: ds, h, f => .cons (f 0 v d rfl rfl) (dpa_of_forall (by simpa using h) fun i v d h1 h2 => f (i + 1) v d (by simpa using h1) (by simpa using h2))
theorem dp_tup_inv {v : V} {ds : List PyData} (h : Rp K H v (.tuple ds)) : ∃ a xs, v = .ref a ∧ H a = some (.tup xs) ∧ RpAll K H xs ds := by
  cases h with
  | tup h1 h2 => exact ⟨_, _, rfl, h1, h2⟩
theorem dp_lst_inv {v : V} {ds : List PyData} (h : Rp K H v (.list ds)) : ∃ a xs, v = .ref a ∧ H a = some (.lst xs) ∧ RpAll K H xs ds := by
  cases h with
  | lst h1 h2 => exact ⟨_, _, rfl, h1, h2⟩
end
theorem sz_of {n : Nat} (h : n ≤ 100000) : n ≤ sizeLine := Nat.le_trans h (by decide)
theorem sz_lt {n : Nat} (h : n < 100000) : n < sizeLine := Nat.lt_of_lt_of_le h (by decide)

/-! ### the source of draws -/
def BoxAt (H : Hp) (a : Addr) (n : Nat) : Prop := ∃ x y z : Int, H a = some (.lst [.int x, .int y, .int z]) ∧ 0 ≤ x ∧ 0 ≤ y ∧ y < 2 ^ 62 ∧ 0 ≤ z ∧ z ≤ n
theorem BoxAt.mono {H : Hp} {a : Addr} {n m : Nat} (h : BoxAt H a n) (q : n ≤ m) : BoxAt H a m := by
  obtain ⟨x, y, z, h0, h1, h2, h3, h4, h5⟩ := h
  exact ⟨x, y, z, h0, h1, h2, h3, h4, by omega⟩
theorem BoxAt.ne {H : Hp} {a : Addr} {n : Nat} (h : BoxAt H a n) : H a ≠ none := by
  obtain ⟨x, y, z, h0, _⟩ := h
  rw [h0]
  exact fun z => nomatch z

/-! ### slots -/
theorem Ex.sq {K : PySem.W.Frag} {G H : Hp} {a : Addr} {xs : List V} (e : Ex G H) (h : SqL K G a xs) : SqL K H a xs := by
  rcases h with (h | ⟨o, h⟩) | h
  · exact .inl (.inl (e _ _ h))
  · exact .inl (.inr ⟨o, e _ _ h⟩)
  · exact .inr h
inductive Sl where
  | un
  | val (d : PyData)
  | own (ds : List PyData)
  | dic (kvs : List (List L2.Key × V))
  | box
  | fz (ds : List PyData)
def SlOk (K : PySem.W.Frag) (bx : Option Addr) (G H : Hp) (o : Option (Option V)) : Sl → Prop
  | .un => True
  | .val d => ∃ v : V, o = some (some v) ∧ Rp K G v d
  | .own ds => ∃ (l : Addr) (xs : List V), o = some (some (.ref l)) ∧ bx ≠ some l ∧ G l = none ∧ H l = some (.lst xs) ∧ RpAll K G xs ds
  | .dic kvs => ∃ a : Addr, o = some (some (.ref a)) ∧ bx ≠ some a ∧ H a = some (.dT kvs)
  | .box => ∃ a : Addr, bx = some a ∧ o = some (some (.ref a))
  | .fz ds => ∃ (a : Addr) (xs : List V), o = some (some (.ref a)) ∧ SqL K G a xs ∧ RpAll K G xs ds
def OwnA (δ : List Sl) (σ : L2.St) (q : Addr) : Prop := ∃ (i : Nat) (ds : List PyData), δ[i]? = some (Sl.own ds) ∧ σ[i]? = some (some (V.ref q))
structure EnvD (K : PySem.W.Frag) (bx : Option Addr) (n : Nat) (δ : List Sl) (σ : L2.St) (G H : Hp) : Prop where
  ex : Ex G H
  len : σ.length = δ.length
  bf : ∀ a, bx = some a → G a = none
  box : ∀ a, bx = some a → BoxAt H a n
  ok : ∀ (i : Nat) (s : Sl), δ[i]? = some s → SlOk K bx G H (σ[i]?) s
  ds : ∀ (i j : Nat) (ds es : List PyData) (l : Addr), δ[i]? = some (Sl.own ds) → δ[j]? = some (Sl.own es) → σ[i]? = some (some (V.ref l)) → σ[j]? = some (some (V.ref l)) → i = j
/-- what an expression may do -/
structure Tr (bx : Option Addr) (n : Nat) (G H G' H' : Hp) : Prop where
  gg : Ex G G'
  ex : Ex G' H'
  fr : ∀ q o, bx ≠ some q → H q = some o → H' q = some o
  nw : ∀ q, H q ≠ none → G q = none → G' q = none
  box : ∀ a, bx = some a → BoxAt H' a n
section
variable {K : PySem.W.Frag} {bx : Option Addr} {n m : Nat} {δ : List Sl} {σ : L2.St} {G H G' H' G2 H2 : Hp}
theorem Tr.live (t : Tr bx n G H G' H') {q : Addr} (h : H q ≠ none) : H' q ≠ none := by
  by_cases hb : bx = some q
  · exact (t.box q hb).ne
  · cases e : H q with
    | none => exact absurd e h
    | some o =>
      rw [t.fr q o hb e]
      exact fun z => nomatch z
theorem Tr.trans {m : Nat} (a : Tr bx n G H G' H') (b : Tr bx m G' H' G2 H2) : Tr bx m G H G2 H2 :=
  ⟨a.gg.trans b.gg, b.ex, fun q o h e => b.fr q o h (a.fr q o h e), fun q h e => b.nw q (a.live h) (a.nw q h e), b.box⟩
theorem EnvD.tr (E : EnvD K bx n δ σ G H) : Tr bx n G H G H := ⟨Ex.refl _, E.ex, fun _ _ _ e => e, fun _ _ e => e, E.box⟩
theorem EnvD.step (E : EnvD K bx n δ σ G H) (t : Tr bx m G H G' H') : EnvD K bx m δ σ G' H' := by
  refine ⟨t.ex, E.len, fun a h => t.nw a (E.box a h).ne (E.bf a h), t.box, fun i s h => ?_, E.ds⟩
  have k := E.ok i s h
  cases s with
  | un => trivial
  | val d =>
    obtain ⟨v, e, r⟩ := k
    exact ⟨v, e, dp_up t.gg r⟩
  | own ds =>
    obtain ⟨l, xs, e, hb, g, hl, r⟩ := k
    exact ⟨l, xs, e, hb, t.nw l (by rw [hl]; exact fun z => nomatch z) g, t.fr l _ hb hl, dpa_up t.gg r⟩
  | dic kvs =>
    obtain ⟨a, e, hb, h⟩ := k
    exact ⟨a, e, hb, t.fr a _ hb h⟩
  | box => exact k
  | fz ds =>
    obtain ⟨a, xs, e, g, r⟩ := k
    exact ⟨a, xs, e, t.gg.sq g, dpa_up t.gg r⟩
/-- nothing but new things: as a transition of any source -/
theorem EnvD.trNew (E : EnvD K bx n δ σ G H) (gg : Ex G G') (ex : Ex G' H') (hh : Ex H H') (nw : ∀ q, H q ≠ none → G q = none → G' q = none) : Tr bx n G H G' H' :=
  ⟨gg, ex, fun q o _ e => hh q o e, nw, fun a h => by
    obtain ⟨x, y, z, h0, h1⟩ := E.box a h
    exact ⟨x, y, z, hh a _ h0, h1⟩⟩
theorem Tr.mono (t : Tr bx n G H G' H') (h : n ≤ m) : Tr bx m G H G' H' := ⟨t.gg, t.ex, t.fr, t.nw, fun a e => (t.box a e).mono h⟩
theorem EnvD.mono (E : EnvD K bx n δ σ G H) (h : n ≤ m) : EnvD K bx m δ σ G H := ⟨E.ex, E.len, E.bf, fun a e => (E.box a e).mono h, E.ok, E.ds⟩
/-- one new thing -/
theorem EnvD.trUpd (E : EnvD K bx n δ σ G H) {p : Addr} {o : HO} (hp : H p = none) : Tr bx n G H (upd G p o) (upd H p o) := by
  have gp : G p = none := E.ex.free hp
  refine E.trNew (Ex.new gp) (fun a u e => ?_) (Ex.new hp) (fun q h e => ?_)
  · by_cases ha : a = p
    · subst ha
      rw [upd_same] at e ⊢
      exact e
    · rw [upd_ne ha] at e ⊢
      exact E.ex a u e
  · rw [upd_ne (fun z => h (by rw [z]; exact hp))]
    exact e
/-- one new thing that stays one's own -/
theorem EnvD.trOwn (E : EnvD K bx n δ σ G H) {p : Addr} {o : HO} (hp : H p = none) : Tr bx n G H G (upd H p o) := by
  have gp : G p = none := E.ex.free hp
  exact E.trNew (Ex.refl _) (E.ex.trans (Ex.new hp)) (Ex.new hp) (fun q h e => e)
end

/-! ### expressions -/
def XB (K : PySem.W.Frag) (te : TE) (δ : List Sl) (n n' : Nat) (P : PyData → Prop) : Prop :=
  ∀ bx σ G H, EnvD K bx n δ σ G H → ∀ Q : VK, (∀ v d G' H', Tr bx n' G H G' H' → Rp K G' v d → P d → Q v H') → te σ H Q
def XD (K : PySem.W.Frag) (te : TE) (δ : List Sl) (d : PyData) : Prop := ∀ n, XB K te δ n n (fun r => r = d)
/-- a new list -/
def XN (K : PySem.W.Frag) (te : TE) (δ : List Sl) (n n' : Nat) (P : List PyData → Prop) : Prop :=
  ∀ bx σ G H, EnvD K bx n δ σ G H → ∀ Q : VK, (∀ p xs ds G' H', Tr bx n' G H G' H' → H p = none → G' p = none → H' p = some (.lst xs) → RpAll K G' xs ds → P ds → Q (.ref p) H') → te σ H Q
def XT (K : PySem.W.Frag) (tt : TT) (δ : List Sl) (b : Bool) : Prop :=
  ∀ bx n σ G H, EnvD K bx n δ σ G H → ∀ Q : Bool → Hp → Prop, (∀ G' H', Tr bx n G H G' H' → Q b H') → tt σ H Q
/-- arguments -/
def XA (K : PySem.W.Frag) (ta : TA) (δ : List Sl) (n n' : Nat) (P : List PyData → Prop) : Prop :=
  ∀ bx σ G H, EnvD K bx n δ σ G H → ∀ Q : List V → Hp → Prop, (∀ vs ds G' H', Tr bx n' G H G' H' → RpAll K G' vs ds → P ds → Q vs H') → ta σ H Q
def XO (K : PySem.W.Frag) (to : TO) (δ : List Sl) (o : Option Int) : Prop :=
  ∀ bx n σ G H, EnvD K bx n δ σ G H → ∀ Q : Option Int → Hp → Prop, (∀ G' H', Tr bx n G H G' H' → Q o H') → to σ H Q
/-- operations on values -/
def RD (K : PySem.W.Frag) (r : R2) (d e : PyData) (P : PyData → Prop) : Prop :=
  ∀ x y bx n δ σ G H, EnvD K bx n δ σ G H → Rp K G x d → Rp K G y e → ∀ Q : VK, (∀ v f G' H', Tr bx n G H G' H' → Rp K G' v f → P f → Q v H') → r x y H Q
def RN (K : PySem.W.Frag) (r : R2) (d e : PyData) (P : List PyData → Prop) : Prop :=
  ∀ x y bx n δ σ G H, EnvD K bx n δ σ G H → Rp K G x d → Rp K G y e → ∀ Q : VK, (∀ p xs ds G' H', Tr bx n G H G' H' → H p = none → G' p = none → H' p = some (.lst xs) → RpAll K G' xs ds → P ds → Q (.ref p) H') → r x y H Q
def RC (K : PySem.W.Frag) (r : List V → Hp → VK → Prop) (ds : List PyData) (P : PyData → Prop) : Prop :=
  ∀ vs bx n δ σ G H, EnvD K bx n δ σ G H → RpAll K G vs ds → ∀ Q : VK, (∀ v f G' H', Tr bx n G H G' H' → Rp K G' v f → P f → Q v H') → r vs H Q
def RCN (K : PySem.W.Frag) (r : List V → Hp → VK → Prop) (ds : List PyData) (P : List PyData → Prop) : Prop :=
  ∀ vs bx n δ σ G H, EnvD K bx n δ σ G H → RpAll K G vs ds → ∀ Q : VK, (∀ p xs ds G' H', Tr bx n G H G' H' → H p = none → G' p = none → H' p = some (.lst xs) → RpAll K G' xs ds → P ds → Q (.ref p) H') → r vs H Q
section
variable {K : PySem.W.Frag} {ta tb te : TE} {tt tu : TT} {tr : TA} {δ : List Sl} {n n1 n2 m : Nat} {P P' P1 P2 : PyData → Prop} {d e f : PyData} {r : R2} {b c : Bool}
theorem XB.imp (h : XB K te δ n n1 P) (hm : n1 ≤ n2) (hp : ∀ d, P d → P' d) : XB K te δ n n2 P' := fun bx σ G H E Q q =>
  h bx σ G H E Q fun v d G' H' t r p => q v d G' H' (t.mono hm) r (hp d p)
theorem XB.bump (h : XB K te δ n n1 P) (hm : n1 ≤ n2) : XB K te δ n n2 P := h.imp hm fun _ p => p
theorem XD.xb (h : XD K te δ d) : XB K te δ n n (fun r => r = d) := h n
theorem XD.sat (h : XD K te δ d) (hp : P d) : XB K te δ n n P := (h n).imp (Nat.le_refl _) fun _ e => by rw [e]; exact hp
theorem XD.is (h : XD K te δ d) (he : d = e) : XD K te δ e := by rw [← he]; exact h
theorem xd_of (h : ∀ n, XB K te δ n n (fun r => r = d)) : XD K te δ d := h
theorem xd_mk (h : ∀ bx n σ G H, EnvD K bx n δ σ G H → ∀ Q : VK, (∀ v G' H', Tr bx n G H G' H' → Rp K G' v d → Q v H') → te σ H Q) : XD K te δ d := fun n bx σ G H E Q q =>
  h bx n σ G H E Q fun v G' H' t r => q v d G' H' t r rfl
theorem XD.run (h : XD K te δ d) {bx : Option Addr} {σ : L2.St} {G H : Hp} (E : EnvD K bx n δ σ G H) {Q : VK} (q : ∀ v G' H', Tr bx n G H G' H' → Rp K G' v d → Q v H') : te σ H Q :=
  h n bx σ G H E Q fun v d' G' H' t r e => q v G' H' t (by rw [← e]; exact r)
/-- a new list becomes a value -/
theorem XN.xb {PL : List PyData → Prop} (h : XN K te δ n n1 PL) : XB K te δ n n1 (fun d => ∃ ds, d = .list ds ∧ PL ds) := fun bx σ G H E Q q =>
  h bx σ G H E Q fun p xs ds G' H' t hp gp hl r hP => by
    have tE := E.step t
    refine q (.ref p) (.list ds) (upd G' p (.lst xs)) H' ?_ (.lst upd_same (dpa_up (Ex.new gp) r)) ⟨ds, rfl, hP⟩
    refine ⟨t.gg.trans (Ex.new gp), fun a u e => ?_, t.fr, fun x h1 h2 => ?_, t.box⟩
    · by_cases ha : a = p
      · subst ha
        rw [upd_same] at e
        rw [← e]
        exact hl
      · rw [upd_ne ha] at e
        exact t.ex a u e
    · rw [upd_ne (fun z => h1 (by rw [z]; exact hp))]
      exact t.nw x h1 h2
theorem XN.xd {ds : List PyData} (h : ∀ n, XN K te δ n n (fun x => x = ds)) : XD K te δ (.list ds) := fun n => (h n).xb.imp (Nat.le_refl _) fun d ⟨es, e1, e2⟩ => by rw [e1, e2]
theorem XN.imp {PL PL' : List PyData → Prop} (h : XN K te δ n n1 PL) (hm : n1 ≤ n2) (hp : ∀ d, PL d → PL' d) : XN K te δ n n2 PL' := fun bx σ G H E Q q =>
  h bx σ G H E Q fun p xs ds G' H' t h1 h2 h3 h4 h5 => q p xs ds G' H' (t.mono hm) h1 h2 h3 h4 (hp ds h5)

theorem xd_var {i : Nat} (h : δ[i]? = some (.val d)) : XD K (tVar i) δ d := xd_mk fun bx n σ G H E Q q => by
  obtain ⟨v, e, r⟩ := E.ok i _ h
  exact ⟨v, e, q v G H E.tr r⟩
theorem xd_int {i : Int} : XD K (tC (.int i)) δ (.int i) := xd_mk fun bx n σ G H E Q q => q _ G H E.tr (.int i)
theorem xd_bl {b : Bool} : XD K (tC (.bl b)) δ (.bool b) := xd_mk fun bx n σ G H E Q q => q _ G H E.tr (.bl b)
theorem xd_non : XD K (tC .non) δ .none := xd_mk fun bx n σ G H E Q q => q _ G H E.tr .non
theorem xd_str {s : Str} : XD K (tC (.str s)) δ (.str s) := xd_mk fun bx n σ G H E Q q => q _ G H E.tr (.str s)
theorem xb_op {P0 : PyData → Prop} (ha : XB K ta δ n n1 P) (hb : XB K tb δ n1 n2 P') (hr : ∀ d e, P d → P' e → RD K r d e P0) : XB K (tOp r ta tb) δ n n2 P0 := fun bx σ G H E Q q =>
  ha bx σ G H E _ fun x d G1 H1 t1 r1 p1 => hb bx σ G1 H1 (E.step t1) _ fun y e G2 H2 t2 r2 p2 =>
    hr d e p1 p2 x y bx n2 δ σ G2 H2 ((E.step t1).step t2) (dp_up t2.gg r1) r2 Q fun v f G3 H3 t3 r3 p3 => q v f G3 H3 ((t1.trans t2).trans t3) r3 p3
theorem xd_op (ha : XD K ta δ d) (hb : XD K tb δ e) (hr : RD K r d e (fun z => z = f)) : XD K (tOp r ta tb) δ f := fun n => xb_op (ha n) (hb n) fun d' e' h1 h2 => by
  rw [h1, h2]
  exact hr
theorem xn_op {PL : List PyData → Prop} (ha : XB K ta δ n n1 P) (hb : XB K tb δ n1 n2 P') (hr : ∀ d e, P d → P' e → RN K r d e PL) : XN K (tOp r ta tb) δ n n2 PL := fun bx σ G H E Q q =>
  ha bx σ G H E _ fun x d G1 H1 t1 r1 p1 => hb bx σ G1 H1 (E.step t1) _ fun y e G2 H2 t2 r2 p2 =>
    hr d e p1 p2 x y bx n2 δ σ G2 H2 ((E.step t1).step t2) (dp_up t2.gg r1) r2 Q fun p xs ds G3 H3 t3 h1 h2 h3 h4 h5 => q p xs ds G3 H3 ((t1.trans t2).trans t3)
      (by
        cases z : H p with
        | none => rfl
        | some o => exact absurd h1 ((t1.trans t2).live (by rw [z]; exact fun y => nomatch y))) h2 h3 h4 h5
theorem rd_mk {z : PyData} (h : ∀ x y bx n δ σ G H, EnvD K bx n δ σ G H → Rp K G x d → Rp K G y e → ∀ Q : VK, (∀ v G' H', Tr bx n G H G' H' → Rp K G' v z → Q v H') → r x y H Q) : RD K r d e (fun f => f = z) :=
  fun x y bx n δ σ G H E h1 h2 Q q => h x y bx n δ σ G H E h1 h2 Q fun v G' H' t r => q v z G' H' t r rfl
/-! numbers -/
theorem rd_I0 {g : Int → Int → Int} {i j : Int} : RD K (rI0 fun i j => .int (g i j)) (.int i) (.int j) (fun z => z = .int (g i j)) := rd_mk fun x y bx n δ σ G H E h1 h2 Q q => by
  cases h1; cases h2
  exact ⟨i, j, rfl, rfl, q _ G H E.tr (.int _)⟩
theorem rd_B0 {g : Int → Int → Bool} {i j : Int} : RD K (rI0 fun i j => .bl (g i j)) (.int i) (.int j) (fun z => z = .bool (g i j)) := rd_mk fun x y bx n δ σ G H E h1 h2 Q q => by
  cases h1; cases h2
  exact ⟨i, j, rfl, rfl, q _ G H E.tr (.bl _)⟩
theorem rd_I {C : Int → Int → Prop} {g : Int → Int → Int} {i j : Int} (hc : C i j) : RD K (rI C fun i j => .int (g i j)) (.int i) (.int j) (fun z => z = .int (g i j)) := rd_mk fun x y bx n δ σ G H E h1 h2 Q q => by
  cases h1; cases h2
  exact ⟨i, j, rfl, rfl, hc, q _ G H E.tr (.int _)⟩
theorem rd_eqI {i j : Int} : RD K rEq (.int i) (.int j) (fun z => z = .bool (decide (i = j))) := rd_mk fun x y bx n δ σ G H E h1 h2 Q q => by
  cases h1; cases h2
  refine ⟨rfl, ?_⟩
  rw [show decide (V.int i = V.int j) = decide (i = j) by simp]
  exact q _ G H E.tr (.bl _)
theorem rd_neI {i j : Int} : RD K rNe (.int i) (.int j) (fun z => z = .bool (!decide (i = j))) := rd_mk fun x y bx n δ σ G H E h1 h2 Q q => by
  cases h1; cases h2
  refine ⟨rfl, ?_⟩
  rw [show decide (V.int i = V.int j) = decide (i = j) by simp]
  exact q _ G H E.tr (.bl _)
theorem rd_eqB {i j : Bool} : RD K rEq (.bool i) (.bool j) (fun z => z = .bool (decide (i = j))) := rd_mk fun x y bx n δ σ G H E h1 h2 Q q => by
  cases h1; cases h2
  refine ⟨rfl, ?_⟩
  rw [show decide (V.bl i = V.bl j) = decide (i = j) by simp]
  exact q _ G H E.tr (.bl _)
theorem rd_neB {i j : Bool} : RD K rNe (.bool i) (.bool j) (fun z => z = .bool (!decide (i = j))) := rd_mk fun x y bx n δ σ G H E h1 h2 Q q => by
  cases h1; cases h2
  refine ⟨rfl, ?_⟩
  rw [show decide (V.bl i = V.bl j) = decide (i = j) by simp]
  exact q _ G H E.tr (.bl _)
theorem rd_eqD (h1 : SeqAt.shaped d = true) (h2 : SeqAt.shaped e = true) : RD K (rEqD K) d e (fun z => z = .bool (PyData.eqv d e)) := rd_mk fun x y bx n δ σ G H E r1 r2 Q q =>
  ⟨d, e, rp_dp (dp_up E.ex r1), rp_dp (dp_up E.ex r2), h1, h2, q _ G H E.tr (.bl _)⟩
theorem rd_neD (h1 : SeqAt.shaped d = true) (h2 : SeqAt.shaped e = true) : RD K (rNeD K) d e (fun z => z = .bool (!PyData.eqv d e)) := rd_mk fun x y bx n δ σ G H E r1 r2 Q q =>
  ⟨d, e, rp_dp (dp_up E.ex r1), rp_dp (dp_up E.ex r2), h1, h2, q _ G H E.tr (.bl _)⟩
/-! items -/
theorem atI_ofd {xs : List V} {ds : List PyData} {G : Hp} {i : Int} (r : RpAll K G xs ds) (h : atI ds i = some d) : ∃ v, atI xs i = some v ∧ Rp K G v d := by
  unfold atI at h ⊢
  rw [dpa_len r]
  cases e : ixN ds.length i with
  | none =>
    rw [e] at h
    cases h
  | some j =>
    rw [e] at h
    exact dpa_get r h
end
end Dry

set_option Elab.async false
set_option linter.all false
set_option maxRecDepth 100000
set_option maxHeartbeats 4000000
namespace Dry
open PySem PySem.Spec PyProof.Rows L2
section
variable {K : PySem.W.Frag} {ta tb tc te : TE} {tt tu : TT} {tr : TA} {tl th : TO} {δ δ1 δ2 : List Sl} {n n1 n2 n3 m : Nat} {P P' P1 P2 : PyData → Prop} {d e f : PyData} {ds es : List PyData} {r : R2} {b c : Bool}
variable {PL PL' : List PyData → Prop}
/-! ### items, slices -/
theorem rd_ixT {i : Int} (h : atI ds i = some d) : RD K (rIxT K) (.tuple ds) (.int i) (fun z => z = d) := rd_mk fun x y bx n δ σ G H E h1 h2 Q q => by
  obtain ⟨a, xs, rfl, hs, hr⟩ := dp_tup_inv h1
  cases h2
  obtain ⟨v, hv, r⟩ := atI_ofd hr h
  exact ⟨a, xs, i, v, rfl, rfl, E.ex.t hs, hv, q v G H E.tr r⟩
theorem rd_ixL {i : Int} (h : atI ds i = some d) : RD K (rIxL K) (.list ds) (.int i) (fun z => z = d) := rd_mk fun x y bx n δ σ G H E h1 h2 Q q => by
  obtain ⟨a, xs, rfl, hs, hr⟩ := dp_lst_inv h1
  cases h2
  obtain ⟨v, hv, r⟩ := atI_ofd hr h
  exact ⟨a, xs, i, v, rfl, rfl, SqL.of (E.ex _ _ hs), hv, q v G H E.tr r⟩
/-- an item of a list of one's own -/
theorem xd_ixOwn {j : Nat} {i : Int} (hj : δ[j]? = some (.own ds)) (hb : XD K tb δ (.int i)) (h : atI ds i = some d) : XD K (tOp (rIxL K) (tVar j) tb) δ d := xd_mk fun bx n σ G H E Q q => by
  obtain ⟨l, xs, e, hbx, gl, hl, hr⟩ := E.ok j _ hj
  refine ⟨.ref l, e, hb.run E fun y G1 H1 t1 r1 => ?_⟩
  cases r1
  obtain ⟨v, hv, r⟩ := atI_ofd hr h
  exact ⟨l, xs, i, v, rfl, rfl, SqL.of (t1.fr l _ hbx hl), hv, q v G1 H1 t1 (dp_up t1.gg r)⟩
def cutP {α : Type} (xs : List α) (lo hi : Option Int) : List α := (xs.drop (HT.sIx xs.length 0 lo)).take (HT.sIx xs.length xs.length hi - HT.sIx xs.length 0 lo)
theorem dpa_cut {G : Hp} {xs : List V} (h : RpAll K G xs ds) (lo hi : Option Int) : RpAll K G (cutV xs lo hi) (cutP ds lo hi) := by
  unfold cutV cutP
  rw [dpa_len h]
  exact dpa_take _ (dpa_drop _ h)
theorem xo_none : XO K tNoPart δ none := fun bx n σ G H E Q q => q G H E.tr
theorem xo_some {i : Int} (h : XD K te δ (.int i)) : XO K (tPart te) δ (some i) := fun bx n σ G H E Q q => h.run E fun v G1 H1 t r => by
  cases r
  exact ⟨i, rfl, q G1 H1 t⟩
theorem xd_slT {lo hi : Option Int} (he : XD K te δ (.tuple ds)) (hl : XO K tl δ lo) (hh : XO K th δ hi) : XD K (tSl (rSlA K) te tl th) δ (.tuple (cutP ds lo hi)) := xd_mk fun bx n σ G H E Q q =>
  he.run E fun v G1 H1 t1 r1 => hl bx n σ G1 H1 (E.step t1) _ fun G2 H2 t2 => hh bx n σ G2 H2 ((E.step t1).step t2) _ fun G3 H3 t3 => by
    obtain ⟨a, xs, rfl, hs, hr⟩ := dp_tup_inv r1
    have E3 := ((E.step t1).step t2).step t3
    have hs3 := E3.ex.t (K := K) ((t2.gg.trans t3.gg) _ _ hs)
    have hr3 := dpa_up (t2.gg.trans t3.gg) hr
    have t := (t1.trans t2).trans t3
    refine ⟨a, xs, rfl, hs3, fun hw => ?_, fun hw p hp => ?_⟩
    · have e : cutP ds lo hi = ds := by
        unfold cutP
        rw [← dpa_len hr, hw.1, hw.2]
        simp [dpa_len hr]
      rw [e] at q
      exact q _ G3 H3 t (.tup ((t2.gg.trans t3.gg) _ _ hs) hr3)
    · exact q _ _ _ (t.trans (E3.trUpd hp)) (.tup upd_same (dpa_up (Ex.new (E3.ex.free hp)) (dpa_cut hr3 lo hi)))
theorem xn_slL {lo hi : Option Int} (he : XD K te δ (.list ds)) (hl : XO K tl δ lo) (hh : XO K th δ hi) : XN K (tSl (rSlL K) te tl th) δ n n (fun z => z = cutP ds lo hi) := fun bx σ G H E Q q =>
  he.run E fun v G1 H1 t1 r1 => hl bx n σ G1 H1 (E.step t1) _ fun G2 H2 t2 => hh bx n σ G2 H2 ((E.step t1).step t2) _ fun G3 H3 t3 => by
    obtain ⟨a, xs, rfl, hs, hr⟩ := dp_lst_inv r1
    have E3 := ((E.step t1).step t2).step t3
    have hs3 := E3.ex _ _ ((t2.gg.trans t3.gg) _ _ hs)
    have hr3 := dpa_up (t2.gg.trans t3.gg) hr
    have t := (t1.trans t2).trans t3
    refine ⟨a, xs, rfl, SqL.of hs3, fun p hp => ?_⟩
    have hp0 : H p = none := by
      cases z : H p with
      | none => rfl
      | some o => exact absurd hp (t.live (by rw [z]; exact fun y => nomatch y))
    exact q p _ _ G3 _ (t.trans (E3.trOwn hp)) hp0 (E3.ex.free hp) upd_same (dpa_cut hr3 lo hi) rfl

/-! ### arguments, displays -/
def XAD (K : PySem.W.Frag) (ta : TA) (δ : List Sl) (ds : List PyData) : Prop := ∀ n, XA K ta δ n n (fun z => z = ds)
theorem xa_nil : XA K tNil δ n n (fun z => z = []) := fun bx σ G H E Q q => q [] [] G H E.tr .nil rfl
theorem xa_cons (h : XB K te δ n n1 P) (hr : XA K tr δ n1 n2 PL) : XA K (tCons te tr) δ n n2 (fun z => ∃ d es, z = d :: es ∧ P d ∧ PL es) := fun bx σ G H E Q q =>
  h bx σ G H E _ fun v d G1 H1 t1 r1 p1 => hr bx σ G1 H1 (E.step t1) _ fun vs es G2 H2 t2 r2 p2 => q (v :: vs) (d :: es) G2 H2 (t1.trans t2) (.cons (dp_up t2.gg r1) r2) ⟨d, es, rfl, p1, p2⟩
theorem XA.imp (h : XA K tr δ n n1 PL) (hm : n1 ≤ n2) (hp : ∀ d, PL d → PL' d) : XA K tr δ n n2 PL' := fun bx σ G H E Q q =>
  h bx σ G H E Q fun v d G' H' t r p => q v d G' H' (t.mono hm) r (hp d p)
theorem xad_nil : XAD K tNil δ [] := fun _ => xa_nil
theorem xad_cons (h : XD K te δ d) (hr : XAD K tr δ es) : XAD K (tCons te tr) δ (d :: es) := fun n => (xa_cons (h n) (hr n)).imp (Nat.le_refl _) fun z ⟨d', es', e1, e2, e3⟩ => by rw [e1, e2, e3]
theorem xb_tup (h : XA K tr δ n n1 PL) (hl : ∀ ds, PL ds → ds.length ≤ 100000) : XB K (tTup tr) δ n n1 (fun z => ∃ ds, z = .tuple ds ∧ PL ds) := fun bx σ G H E Q q =>
  h bx σ G H E _ fun vs ds G1 H1 t1 r1 p1 => ⟨sz_of (by rw [dpa_len r1]; exact hl ds p1), fun p hp => by
    have E1 := E.step t1
    exact q _ _ _ _ (t1.trans (E1.trUpd hp)) (.tup upd_same (dpa_up (Ex.new (E1.ex.free hp)) r1)) ⟨ds, rfl, p1⟩⟩
theorem xd_tup (h : XAD K tr δ ds) (hl : ds.length ≤ 100000) : XD K (tTup tr) δ (.tuple ds) := fun n => (xb_tup (h n) fun es e => by rw [e]; exact hl).imp (Nat.le_refl _) fun z ⟨es, e1, e2⟩ => by rw [e1, e2]
theorem xn_lst (h : XA K tr δ n n1 PL) (hl : ∀ ds, PL ds → ds.length ≤ 100000) : XN K (tLst tr) δ n n1 PL := fun bx σ G H E Q q =>
  h bx σ G H E _ fun vs ds G1 H1 t1 r1 p1 => ⟨sz_of (by rw [dpa_len r1]; exact hl ds p1), fun p hp => by
    have E1 := E.step t1
    have hp0 : H p = none := by
      cases z : H p with
      | none => rfl
      | some o => exact absurd hp (t1.live (by rw [z]; exact fun y => nomatch y))
    exact q p vs ds G1 _ (t1.trans (E1.trOwn hp)) hp0 (E1.ex.free hp) upd_same r1 p1⟩
theorem xd_lst (h : XAD K tr δ ds) (hl : ds.length ≤ 100000) : XD K (tLst tr) δ (.list ds) := XN.xd fun n => xn_lst (h n) fun es e => by rw [e]; exact hl
/-! ### + of sequences -/
theorem rd_catT (hl : ds.length + es.length ≤ 100000) : RD K (rCatA K) (.tuple ds) (.tuple es) (fun z => z = .tuple (ds ++ es)) := rd_mk fun x y bx n δ σ G H E h1 h2 Q q => by
  obtain ⟨a, xs, rfl, hs, hr⟩ := dp_tup_inv h1
  obtain ⟨a2, ys, rfl, hs2, hr2⟩ := dp_tup_inv h2
  have l1 := dpa_len hr
  have l2 := dpa_len hr2
  refine ⟨a, a2, xs, ys, rfl, rfl, E.ex.t hs, E.ex.t hs2, sz_of (by omega), fun e => ?_, fun _ e => ?_, fun _ _ p hp => ?_⟩
  · subst e
    cases hr
    exact q _ G H E.tr (.tup hs2 hr2)
  · subst e
    cases hr2
    rw [List.append_nil] at q
    exact q _ G H E.tr (.tup hs hr)
  · exact q _ _ _ (E.trUpd hp) (.tup upd_same (dpa_up (Ex.new (E.ex.free hp)) (dpa_append hr hr2)))
theorem rn_cat (hl : ds.length + es.length ≤ 100000) : RN K rCat (.list ds) (.list es) (fun z => z = ds ++ es) := fun x y bx n δ σ G H E h1 h2 Q q => by
  obtain ⟨a, xs, rfl, hs, hr⟩ := dp_lst_inv h1
  obtain ⟨a2, ys, rfl, hs2, hr2⟩ := dp_lst_inv h2
  have l1 := dpa_len hr
  have l2 := dpa_len hr2
  exact ⟨a, a2, xs, ys, rfl, rfl, E.ex _ _ hs, E.ex _ _ hs2, sz_of (by omega), fun p hp => q p _ _ G _ (E.trOwn hp) hp (E.ex.free hp) upd_same (dpa_append hr hr2) rfl⟩
theorem rn_rep {k : Int} (h0 : 0 ≤ k) (h1 : k ≤ 1000) (hl : ds.length ≤ 10) : RN K rRep (.list ds) (.int k) (fun z => z = (List.replicate k.toNat ds).flatten) := fun x y bx n δ σ G H E r1 r2 Q q => by
  obtain ⟨a, xs, rfl, hs, hr⟩ := dp_lst_inv r1
  cases r2
  have l1 := dpa_len hr
  have hz : xs.length * k.toNat ≤ 10 * 1000 := Nat.mul_le_mul (by omega) (by omega)
  refine ⟨a, k, xs, rfl, rfl, E.ex _ _ hs, by omega, by omega, sz_of (by omega), fun p hp => q p _ _ G _ (E.trOwn hp) hp (E.ex.free hp) upd_same ?_ rfl⟩
  generalize k.toNat = j
  induction j with
  | zero => exact .nil
  | succ j ih =>
    rw [List.replicate_succ, List.replicate_succ, List.flatten_cons, List.flatten_cons]
    exact dpa_append hr ih
theorem xd_opN (ha : XD K ta δ d) (hb : XD K tb δ e) (hr : RN K r d e (fun z => z = ds)) : XD K (tOp r ta tb) δ (.list ds) := XN.xd fun n => xn_op (ha n) (hb n) fun d' e' h1 h2 => by
  rw [h1, h2]
  exact hr
/-! ### built-ins -/
theorem xb_cb {rr : List V → Hp → VK → Prop} (h : XA K tr δ n n1 PL) (hr : ∀ ds, PL ds → RC K rr ds P) : XB K (tCB rr tr) δ n n1 P := fun bx σ G H E Q q =>
  h bx σ G H E _ fun vs ds G1 H1 t1 r1 p1 => hr ds p1 vs bx n1 δ σ G1 H1 (E.step t1) r1 Q fun v f G2 H2 t2 r2 p2 => q v f G2 H2 (t1.trans t2) r2 p2
theorem xd_cb {rr : List V → Hp → VK → Prop} (h : XAD K tr δ ds) (hr : RC K rr ds (fun z => z = d)) : XD K (tCB rr tr) δ d := fun n => xb_cb (h n) fun es e => by rw [e]; exact hr
theorem xn_cb {rr : List V → Hp → VK → Prop} (h : XA K tr δ n n1 PL) (hr : ∀ ds, PL ds → RCN K rr ds PL') : XN K (tCB rr tr) δ n n1 PL' := fun bx σ G H E Q q =>
  h bx σ G H E _ fun vs ds G1 H1 t1 r1 p1 => hr ds p1 vs bx n1 δ σ G1 H1 (E.step t1) r1 Q fun p xs es G2 H2 t2 h1 h2 h3 h4 h5 => q p xs es G2 H2 (t1.trans t2)
    (by
      cases z : H p with
      | none => rfl
      | some o => exact absurd h1 (t1.live (by rw [z]; exact fun y => nomatch y))) h2 h3 h4 h5
theorem rc_mk {rr : List V → Hp → VK → Prop} (h : ∀ vs bx n δ σ G H, EnvD K bx n δ σ G H → RpAll K G vs ds → ∀ Q : VK, (∀ v G' H', Tr bx n G H G' H' → Rp K G' v d → Q v H') → rr vs H Q) : RC K rr ds (fun z => z = d) :=
  fun vs bx n δ σ G H E r Q q => h vs bx n δ σ G H E r Q fun v G' H' t r => q v d G' H' t r rfl
theorem one_of {G : Hp} {vs : List V} (h : RpAll K G vs [d]) : ∃ v, vs = [v] ∧ Rp K G v d := by
  cases h with
  | cons h1 h2 => cases h2; exact ⟨_, rfl, h1⟩
theorem rc_lenT : RC K (fun xs H Q => ∃ p ys, xs = [V.ref p] ∧ (SqL K H p ys ∨ SqT K H p ys) ∧ Q (.int ys.length) H) [.tuple ds] (fun z => z = .int ds.length) := rc_mk fun vs bx n δ σ G H E r Q q => by
  obtain ⟨v, rfl, r1⟩ := one_of r
  obtain ⟨a, xs, rfl, hs, hr⟩ := dp_tup_inv r1
  refine ⟨a, xs, rfl, .inr (E.ex.t hs), ?_⟩
  rw [dpa_len hr]
  exact q _ G H E.tr (.int _)
theorem rc_lenL : RC K (fun xs H Q => ∃ p ys, xs = [V.ref p] ∧ (SqL K H p ys ∨ SqT K H p ys) ∧ Q (.int ys.length) H) [.list ds] (fun z => z = .int ds.length) := rc_mk fun vs bx n δ σ G H E r Q q => by
  obtain ⟨v, rfl, r1⟩ := one_of r
  obtain ⟨a, xs, rfl, hs, hr⟩ := dp_lst_inv r1
  refine ⟨a, xs, rfl, .inl (SqL.of (E.ex _ _ hs)), ?_⟩
  rw [dpa_len hr]
  exact q _ G H E.tr (.int _)
theorem rc_tupleL : RC K (fun xs H Q => ∃ p ys, xs = [V.ref p] ∧ ((SqL K H p ys ∧ ∀ l, H l = none → Q (.ref l) (upd H l (.tup ys))) ∨ (SqT K H p ys ∧ Q (.ref p) H))) [.list ds] (fun z => z = .tuple ds) := rc_mk fun vs bx n δ σ G H E r Q q => by
  obtain ⟨v, rfl, r1⟩ := one_of r
  obtain ⟨a, xs, rfl, hs, hr⟩ := dp_lst_inv r1
  exact ⟨a, xs, rfl, .inl ⟨SqL.of (E.ex _ _ hs), fun p hp => q _ _ _ (E.trUpd hp) (.tup upd_same (dpa_up (Ex.new (E.ex.free hp)) hr))⟩⟩
theorem rcn_listT : RCN K (fun xs H Q => ∃ p ys, xs = [V.ref p] ∧ (SqL K H p ys ∨ SqT K H p ys) ∧ ∀ l, H l = none → Q (.ref l) (upd H l (.lst ys))) [.tuple ds] (fun z => z = ds) := fun vs bx n δ σ G H E r Q q => by
  obtain ⟨v, rfl, r1⟩ := one_of r
  obtain ⟨a, xs, rfl, hs, hr⟩ := dp_tup_inv r1
  exact ⟨a, xs, rfl, .inr (E.ex.t hs), fun p hp => q p _ _ G _ (E.trOwn hp) hp (E.ex.free hp) upd_same hr rfl⟩
theorem rcn_listL : RCN K (fun xs H Q => ∃ p ys, xs = [V.ref p] ∧ (SqL K H p ys ∨ SqT K H p ys) ∧ ∀ l, H l = none → Q (.ref l) (upd H l (.lst ys))) [.list ds] (fun z => z = ds) := fun vs bx n δ σ G H E r Q q => by
  obtain ⟨v, rfl, r1⟩ := one_of r
  obtain ⟨a, xs, rfl, hs, hr⟩ := dp_lst_inv r1
  exact ⟨a, xs, rfl, .inl (SqL.of (E.ex _ _ hs)), fun p hp => q p _ _ G _ (E.trOwn hp) hp (E.ex.free hp) upd_same hr rfl⟩
theorem rc_sum {ns : List Int} : RC K (rSum K) [.list (ns.map PyData.int)] (fun z => z = .int ns.sum) := rc_mk fun vs bx n δ σ G H E r Q q => by
  obtain ⟨v, rfl, r1⟩ := one_of r
  obtain ⟨a, xs, rfl, hs, hr⟩ := dp_lst_inv r1
  have e := dpa_ints hr
  subst e
  exact ⟨a, ns, rfl, SqL.of (E.ex _ _ hs), q _ G H E.tr (.int _)⟩
theorem rc_all {bs : List Bool} : RC K (rAll K) [.list (bs.map PyData.bool)] (fun z => z = .bool (bs.all id)) := rc_mk fun vs bx n δ σ G H E r Q q => by
  obtain ⟨v, rfl, r1⟩ := one_of r
  obtain ⟨a, xs, rfl, hs, hr⟩ := dp_lst_inv r1
  have e := dpa_bools hr
  subst e
  exact ⟨a, bs, rfl, SqL.of (E.ex _ _ hs), q _ G H E.tr (.bl _)⟩
theorem rc_any {bs : List Bool} : RC K (rAny K) [.list (bs.map PyData.bool)] (fun z => z = .bool (bs.any id)) := rc_mk fun vs bx n δ σ G H E r Q q => by
  obtain ⟨v, rfl, r1⟩ := one_of r
  obtain ⟨a, xs, rfl, hs, hr⟩ := dp_lst_inv r1
  have e := dpa_bools hr
  subst e
  exact ⟨a, bs, rfl, SqL.of (E.ex _ _ hs), q _ G H E.tr (.bl _)⟩
theorem rc_intI {i : Int} : RC K (fun xs H Q => (∃ i, xs = [V.int i] ∧ Q (.int i) H) ∨ ∃ k, xs = [V.bl k] ∧ Q (.int (if k then 1 else 0)) H) [.int i] (fun z => z = .int i) := rc_mk fun vs bx n δ σ G H E r Q q => by
  obtain ⟨v, rfl, r1⟩ := one_of r
  cases r1
  exact .inl ⟨i, rfl, q _ G H E.tr (.int _)⟩
theorem rc_intB {b : Bool} : RC K (fun xs H Q => (∃ i, xs = [V.int i] ∧ Q (.int i) H) ∨ ∃ k, xs = [V.bl k] ∧ Q (.int (if k then 1 else 0)) H) [.bool b] (fun z => z = .int (if b then 1 else 0)) := rc_mk fun vs bx n δ σ G H E r Q q => by
  obtain ⟨v, rfl, r1⟩ := one_of r
  cases r1
  exact .inr ⟨b, rfl, q _ G H E.tr (.int _)⟩
theorem rc_abs {i : Int} : RC K (fun xs H Q => ∃ i, xs = [V.int i] ∧ Q (.int (if i < 0 then -i else i)) H) [.int i] (fun z => z = .int (if i < 0 then -i else i)) := rc_mk fun vs bx n δ σ G H E r Q q => by
  obtain ⟨v, rfl, r1⟩ := one_of r
  cases r1
  exact ⟨i, rfl, q _ G H E.tr (.int _)⟩
/-! ### x in PRIMES and the like: flat things -/
def flatD : PyData → Bool
  | .none => true
  | .bool _ => true
  | .int _ => true
  | .str _ => true
  | _ => false
theorem rd_inT {i : Int} {ns : List Int} : RD K (rIn K false) (.int i) (.tuple (ns.map PyData.int)) (fun z => z = .bool (ns.contains i)) := rd_mk fun x y bx n δ σ G H E h1 h2 Q q => by
  obtain ⟨a, xs, rfl, hs, hr⟩ := dp_tup_inv h2
  have e := dpa_ints hr
  subst e
  cases h1
  refine ⟨a, _, rfl, .inr (E.ex.t hs), rfl, ?_, ?_⟩
  · rw [List.all_map, List.all_eq_true]
    intro x _
    rfl
  · have e : inV (.int i) (ns.map V.int) = ns.contains i := by
      unfold inV
      rw [List.any_map, List.contains_eq_any_beq]
      congr 1
      funext z
      exact Bool.eq_iff_iff.mpr ⟨fun h => by have h' : (z == i) = true := h; rw [beq_iff_eq] at h' ⊢; exact h'.symm, fun h => by show (z == i) = true; rw [beq_iff_eq] at h ⊢; exact h.symm⟩
    show Q (.bl (inV (.int i) (ns.map V.int))) H
    rw [e]
    exact q _ G H E.tr (.bl _)
theorem rd_notInT {i : Int} {ns : List Int} : RD K (rIn K true) (.int i) (.tuple (ns.map PyData.int)) (fun z => z = .bool (!ns.contains i)) := rd_mk fun x y bx n δ σ G H E h1 h2 Q q => by
  obtain ⟨a, xs, rfl, hs, hr⟩ := dp_tup_inv h2
  have e := dpa_ints hr
  subst e
  cases h1
  refine ⟨a, _, rfl, .inr (E.ex.t hs), rfl, ?_, ?_⟩
  · rw [List.all_map, List.all_eq_true]
    intro x _
    rfl
  · have e : inV (.int i) (ns.map V.int) = ns.contains i := by
      unfold inV
      rw [List.any_map, List.contains_eq_any_beq]
      congr 1
      funext z
      exact Bool.eq_iff_iff.mpr ⟨fun h => by have h' : (z == i) = true := h; rw [beq_iff_eq] at h' ⊢; exact h'.symm, fun h => by show (z == i) = true; rw [beq_iff_eq] at h ⊢; exact h.symm⟩
    show Q (.bl (!inV (.int i) (ns.map V.int))) H
    rw [e]
    exact q _ G H E.tr (.bl _)
theorem rd_notInL {i : Int} {ns : List Int} : RD K (rIn K true) (.int i) (.list (ns.map PyData.int)) (fun z => z = .bool (!ns.contains i)) := rd_mk fun x y bx n δ σ G H E h1 h2 Q q => by
  obtain ⟨a, xs, rfl, hs, hr⟩ := dp_lst_inv h2
  have e := dpa_ints hr
  subst e
  cases h1
  refine ⟨a, _, rfl, .inl (SqL.of (E.ex _ _ hs)), rfl, ?_, ?_⟩
  · rw [List.all_map, List.all_eq_true]
    intro x _
    rfl
  · have e : inV (.int i) (ns.map V.int) = ns.contains i := by
      unfold inV
      rw [List.any_map, List.contains_eq_any_beq]
      congr 1
      funext z
      exact Bool.eq_iff_iff.mpr ⟨fun h => by have h' : (z == i) = true := h; rw [beq_iff_eq] at h' ⊢; exact h'.symm, fun h => by show (z == i) = true; rw [beq_iff_eq] at h ⊢; exact h.symm⟩
    show Q (.bl (!inV (.int i) (ns.map V.int))) H
    rw [e]
    exact q _ G H E.tr (.bl _)
/-! ### isinstance -/
def tyn : PyData → String
  | .none => "NoneType"
  | .bool _ => "bool"
  | .int _ => "int"
  | .str _ => "str"
  | .list _ => "list"
  | .tuple _ => "tuple"
  | .dict _ => "dict"
theorem tyX_of {H : Hp} {v : V} (h : Rp K H v d) : TyX K H v (.type (tyn d)) := by
  cases h with
  | non => exact .base .non
  | bl b => exact .base (.bl b)
  | int i => exact .base (.int i)
  | str x => exact .base (.str x)
  | lst h1 h2 => exact .base (.lst h1)
  | tup h1 h2 => exact .base (.tup h1)
theorem rp_nd {G : Hp} {v : V} (h : Rp K G v d) (x : List (PyData × PyData)) : d ≠ .dict x := fun e => by
  subst e
  cases h
theorem xd_isi {T : String} (h : XD K te δ d) (hk : (∀ x, d ≠ .dict x) → kitB (tyn d) T = some b) : XD K (tCB (rIsi K) (tCons te (tCons (tC (.ty T)) tNil))) δ (.bool b) := xd_mk fun bx n σ G H E Q q =>
  h.run E fun v G1 H1 t1 r1 => ⟨v, .ty T, _, .type T, b, rfl, .ty T, tyX_of (dp_up (E.step t1).ex r1), kit_ty (hk (rp_nd r1)), q _ G1 H1 t1 (.bl b)⟩
theorem xd_isi2 {T U : String} {b2 : Bool} (h : XD K te δ d) (hk : (∀ x, d ≠ .dict x) → kitB (tyn d) T = some b) (hk2 : (∀ x, d ≠ .dict x) → kitB (tyn d) U = some b2) :
    XD K (tCB (rIsiT K) (tCons te (tCons (tTup (tCons (tC (.ty T)) (tCons (tC (.ty U)) tNil))) tNil))) δ (.bool (b || b2)) := xd_mk fun bx n σ G H E Q q =>
  h.run E fun v G1 H1 t1 r1 => ⟨by show 2 ≤ sizeLine; decide, fun p hp => by
    have E1 := E.step t1
    have t2 := E1.trUpd (o := .tup [.ty T, .ty U]) hp
    refine ⟨v, p, [.ty T, .ty U], _, [.type T, .type U], b || b2, rfl, upd_same, .cons (.ty T) (.cons (.ty U) .nil), tyX_of (dp_up (E1.step t2).ex (dp_up t2.gg r1)), ?_, q _ _ _ (t1.trans t2) (.bl _)⟩
    refine kitAny_cons (kit_ty (hk (rp_nd r1))) (fun hb => ?_) (fun hb => by rw [hb] <;> rfl)
    rw [hb]
    refine kitAny_cons (kit_ty (hk2 (rp_nd r1))) (fun hb2 => by rw [hb2]; exact kitAny_nil) (fun hb2 => by rw [hb2] <;> rfl)⟩
def isInt : PyData → Bool
  | .bool _ => true
  | .int _ => true
  | _ => false
theorem kit_int (h : ∀ x, d ≠ .dict x) : kitB (tyn d) "int" = some (isInt d) := by
  cases d with
  | none => exact (by decide +kernel : kitB "NoneType" "int" = some false)
  | bool b => exact (by decide +kernel : kitB "bool" "int" = some true)
  | int i => exact (by decide +kernel : kitB "int" "int" = some true)
  | str x => exact (by decide +kernel : kitB "str" "int" = some false)
  | list xs => exact (by decide +kernel : kitB "list" "int" = some false)
  | tuple xs => exact (by decide +kernel : kitB "tuple" "int" = some false)
  | dict x => exact (h _ rfl).elim
def isBool : PyData → Bool
  | .bool _ => true
  | _ => false
theorem kit_bool (h : ∀ x, d ≠ .dict x) : kitB (tyn d) "bool" = some (isBool d) := by
  cases d with
  | none => exact (by decide +kernel : kitB "NoneType" "bool" = some false)
  | bool b => exact (by decide +kernel : kitB "bool" "bool" = some true)
  | int i => exact (by decide +kernel : kitB "int" "bool" = some false)
  | str x => exact (by decide +kernel : kitB "str" "bool" = some false)
  | list xs => exact (by decide +kernel : kitB "list" "bool" = some false)
  | tuple xs => exact (by decide +kernel : kitB "tuple" "bool" = some false)
  | dict x => exact (h _ rfl).elim
def isStr : PyData → Bool
  | .str _ => true
  | _ => false
theorem kit_str (h : ∀ x, d ≠ .dict x) : kitB (tyn d) "str" = some (isStr d) := by
  cases d with
  | none => exact (by decide +kernel : kitB "NoneType" "str" = some false)
  | bool b => exact (by decide +kernel : kitB "bool" "str" = some false)
  | int i => exact (by decide +kernel : kitB "int" "str" = some false)
  | str x => exact (by decide +kernel : kitB "str" "str" = some true)
  | list xs => exact (by decide +kernel : kitB "list" "str" = some false)
  | tuple xs => exact (by decide +kernel : kitB "tuple" "str" = some false)
  | dict x => exact (h _ rfl).elim
def isTup : PyData → Bool
  | .tuple _ => true
  | _ => false
theorem kit_tuple (h : ∀ x, d ≠ .dict x) : kitB (tyn d) "tuple" = some (isTup d) := by
  cases d with
  | none => exact (by decide +kernel : kitB "NoneType" "tuple" = some false)
  | bool b => exact (by decide +kernel : kitB "bool" "tuple" = some false)
  | int i => exact (by decide +kernel : kitB "int" "tuple" = some false)
  | str x => exact (by decide +kernel : kitB "str" "tuple" = some false)
  | list xs => exact (by decide +kernel : kitB "list" "tuple" = some false)
  | tuple xs => exact (by decide +kernel : kitB "tuple" "tuple" = some true)
  | dict x => exact (h _ rfl).elim
def isLst : PyData → Bool
  | .list _ => true
  | _ => false
theorem kit_list (h : ∀ x, d ≠ .dict x) : kitB (tyn d) "list" = some (isLst d) := by
  cases d with
  | none => exact (by decide +kernel : kitB "NoneType" "list" = some false)
  | bool b => exact (by decide +kernel : kitB "bool" "list" = some false)
  | int i => exact (by decide +kernel : kitB "int" "list" = some false)
  | str x => exact (by decide +kernel : kitB "str" "list" = some false)
  | list xs => exact (by decide +kernel : kitB "list" "list" = some true)
  | tuple xs => exact (by decide +kernel : kitB "tuple" "list" = some false)
  | dict x => exact (h _ rfl).elim
/-! ### tests -/
theorem xt_val (h : XD K te δ (.bool b)) : XT K (tB te) δ b := fun bx n σ G H E Q q => h.run E fun v G1 H1 t r => by
  cases r
  exact ⟨b, rfl, q G1 H1 t⟩
theorem xt_test (h : XD K te δ (.bool b)) : XT K (tTest te) δ b := fun bx n σ G H E Q q => h.run E fun v G1 H1 t r => by
  cases r
  exact ⟨b, rfl, q G1 H1 t⟩
theorem XT.is (h : XT K tt δ b) (e : b = c) : XT K tt δ c := by rw [← e]; exact h
theorem xt_and (h1 : XT K tt δ b) (h2 : b = true → XT K tu δ c) : XT K (tAnd tt tu) δ (b && c) := fun bx n σ G H E Q q => h1 bx n σ G H E _ fun G1 H1 t1 => by
  cases b with
  | true =>
    show tu σ H1 Q
    exact h2 rfl bx n σ G1 H1 (E.step t1) Q fun G2 H2 t2 => q G2 H2 (t1.trans t2)
  | false => exact q G1 H1 t1
theorem xt_or (h1 : XT K tt δ b) (h2 : b = false → XT K tu δ c) : XT K (tOr tt tu) δ (b || c) := fun bx n σ G H E Q q => h1 bx n σ G H E _ fun G1 H1 t1 => by
  cases b with
  | true => exact q G1 H1 t1
  | false =>
    show tu σ H1 Q
    exact h2 rfl bx n σ G1 H1 (E.step t1) Q fun G2 H2 t2 => q G2 H2 (t1.trans t2)
theorem xt_not (h1 : XT K tt δ b) : XT K (tNot tt) δ (!b) := fun bx n σ G H E Q q => h1 bx n σ G H E _ fun G1 H1 t1 => q G1 H1 t1
theorem xd_and (h1 : XD K ta δ (.bool b)) (h2 : b = true → XD K tb δ (.bool c)) : XD K (tAndV ta tb) δ (.bool (b && c)) := xd_mk fun bx n σ G H E Q q => h1.run E fun v G1 H1 t1 r1 => by
  cases r1
  refine ⟨b, rfl, ?_⟩
  cases b with
  | true =>
    show tb σ H1 Q
    exact (h2 rfl).run (E.step t1) fun v G2 H2 t2 r2 => q v G2 H2 (t1.trans t2) r2
  | false => exact q _ G1 H1 t1 (.bl _)
theorem xd_or (h1 : XD K ta δ (.bool b)) (h2 : b = false → XD K tb δ (.bool c)) : XD K (tOrV ta tb) δ (.bool (b || c)) := xd_mk fun bx n σ G H E Q q => h1.run E fun v G1 H1 t1 r1 => by
  cases r1
  refine ⟨b, rfl, ?_⟩
  cases b with
  | true => exact q _ G1 H1 t1 (.bl _)
  | false =>
    show tb σ H1 Q
    exact (h2 rfl).run (E.step t1) fun v G2 H2 t2 r2 => q v G2 H2 (t1.trans t2) r2
theorem xd_not (h1 : XD K ta δ (.bool b)) : XD K (tNotV ta) δ (.bool (!b)) := xd_mk fun bx n σ G H E Q q => h1.run E fun v G1 H1 t1 r1 => by
  cases r1
  exact ⟨b, rfl, q _ G1 H1 t1 (.bl _)⟩
theorem xb_if (h : XT K tt δ b) (h1 : b = true → XB K ta δ n n1 P) (h2 : b = false → XB K tb δ n n1 P) : XB K (tIf tt ta tb) δ n n1 P := fun bx σ G H E Q q => h bx n σ G H E _ fun G1 H1 t1 => by
  cases b with
  | true =>
    show ta σ H1 Q
    exact h1 rfl bx σ G1 H1 (E.step t1) Q fun v d G2 H2 t2 r2 p2 => q v d G2 H2 (t1.trans t2) r2 p2
  | false =>
    show tb σ H1 Q
    exact h2 rfl bx σ G1 H1 (E.step t1) Q fun v d G2 H2 t2 r2 p2 => q v d G2 H2 (t1.trans t2) r2 p2
theorem xd_if (h : XT K tt δ b) (h1 : b = true → XD K ta δ d) (h2 : b = false → XD K tb δ d) : XD K (tIf tt ta tb) δ d := fun n => xb_if h (fun z => h1 z n) (fun z => h2 z n)
def isN : PyData → Bool
  | .none => true
  | _ => false
theorem isN_rel {H : Hp} {v : V} (h : Rp K H v d) : decide (v = .non) = isN d := by
  cases h <;> rfl
theorem xd_isN (h : XD K te δ d) : XD K (tIsN te) δ (.bool (isN d)) := xd_mk fun bx n σ G H E Q q => h.run E fun v G1 H1 t1 r1 => by
  show Q (.bl (decide (v = .non))) H1
  rw [isN_rel r1]
  exact q _ G1 H1 t1 (.bl _)
theorem xd_notN (h : XD K te δ d) : XD K (tNotN te) δ (.bool (!isN d)) := xd_mk fun bx n σ G H E Q q => h.run E fun v G1 H1 t1 r1 => by
  show Q (.bl (!decide (v = .non))) H1
  rw [isN_rel r1]
  exact q _ G1 H1 t1 (.bl _)
/-- a <= b < c of ints -/
theorem xd_chain {g1 g2 : Int → Int → Bool} {i j k : Int} (h1 : XD K ta δ (.int i)) (h2 : XD K tb δ (.int j)) (h3 : XD K tc δ (.int k)) :
    XD K (tChain (rI0 fun i j => .bl (g1 i j)) (rI0 fun i j => .bl (g2 i j)) ta tb tc) δ (.bool (g1 i j && g2 j k)) := xd_mk fun bx n σ G H E Q q =>
  h1.run E fun v G1 H1 t1 r1 => h2.run (E.step t1) fun u G2 H2 t2 r2 => by
    cases r1; cases r2
    refine ⟨i, j, rfl, rfl, g1 i j, rfl, ?_⟩
    cases e : g1 i j with
    | true =>
      show tc σ H2 _
      refine h3.run ((E.step t1).step t2) fun w G3 H3 t3 r3 => ?_
      cases r3
      refine ⟨j, k, rfl, rfl, ?_⟩
      rw [e] at q
      exact q _ G3 H3 ((t1.trans t2).trans t3) (.bl _)
    | false =>
      rw [e] at q
      exact q _ G2 H2 (t1.trans t2) (.bl _)
end
end Dry

set_option Elab.async false
set_option linter.all false
set_option maxRecDepth 100000
set_option maxHeartbeats 4000000
namespace Dry
open PySem PySem.Spec PyProof.Rows L2
/-! ### calls -/
structure New (G H G' H' : Hp) : Prop where
  gg : Ex G G'
  ex : Ex G' H'
  hh : Ex H H'
  nw : ∀ q, H q ≠ none → G q = none → G' q = none
/-- a def of values: the arguments' data, what is true of the answer's -/
def SpD (K : PySem.W.Frag) (dom : List PyData → (PyData → Prop) → Prop) : Sp := fun vs H Q _ =>
  ∃ (ds : List PyData) (P : PyData → Prop) (G : Hp), Ex G H ∧ RpAll K G vs ds ∧ dom ds P ∧ ∀ v d G' H', New G H G' H' → Rp K G' v d → P d → Q v H'
/-- a def that draws: c draws at most -/
def SpB (K : PySem.W.Frag) (dom : List PyData → Nat → (PyData → Prop) → Prop) : Sp := fun vs H Q _ =>
  ∃ (a : Addr) (ws : List V) (ds : List PyData) (c : Nat) (P : PyData → Prop) (n : Nat) (G : Hp), vs = .ref a :: ws ∧ G a = none ∧ BoxAt H a n ∧ n + c ≤ 2 ^ 50 ∧ Ex G H ∧ RpAll K G ws ds ∧ dom ds c P ∧
    ∀ v d G' H', Tr (some a) (n + c) G H G' H' → Rp K G' v d → P d → Q v H'
section
variable {K : PySem.W.Frag} {te : TE} {tr : TA} {δ : List Sl} {n n1 c : Nat} {P : PyData → Prop} {d : PyData} {ds : List PyData} {PL : List PyData → Prop}
theorem xb_callD {dom : List PyData → (PyData → Prop) → Prop} {E : XK} (h : XA K tr δ n n1 PL) (hd : ∀ ds, PL ds → dom ds P) : XB K (tCall (SpD K dom) [] E tr) δ n n1 P := fun bx σ G H En Q q =>
  h bx σ G H En _ fun vs ds G1 H1 t1 r1 p1 => by
    rw [List.append_nil]
    exact ⟨ds, P, G1, t1.ex, r1, hd ds p1, fun v d G2 H2 nw r2 p2 => q v d G2 H2 (t1.trans ((En.step t1).trNew nw.gg nw.ex nw.hh nw.nw)) r2 p2⟩
theorem xd_callD {dom : List PyData → (PyData → Prop) → Prop} {E : XK} (h : XAD K tr δ ds) (hd : dom ds (fun z => z = d)) : XD K (tCall (SpD K dom) [] E tr) δ d := fun n => xb_callD (h n) fun es e => by rw [e]; exact hd
theorem xb_callB {dom : List PyData → Nat → (PyData → Prop) → Prop} {E : XK} {i : Nat} (hi : δ[i]? = some .box) (h : XA K tr δ n n1 PL) (hd : ∀ ds, PL ds → dom ds c P) (hc : n1 + c ≤ 2 ^ 50) : XB K (tCall (SpB K dom) [] E (tCons (tVar i) tr)) δ n (n1 + c) P := fun bx σ G H En Q q => by
  obtain ⟨a, ha, hs⟩ := En.ok i _ hi
  subst ha
  refine ⟨.ref a, hs, h (some a) σ G H En _ fun vs ds G1 H1 t1 r1 p1 => ?_⟩
  show SpB K dom ((V.ref a :: vs) ++ []) H1 Q E
  rw [List.append_nil]
  have E1 := En.step t1
  exact ⟨a, vs, ds, c, P, n1, G1, rfl, E1.bf a rfl, E1.box a rfl, hc, t1.ex, r1, hd ds p1, fun v d G2 H2 t2 r2 p2 => q v d G2 H2 (t1.trans t2) r2 p2⟩
end

/-! ### targets -/
def unw (δ : List Sl) : List Nat → List Sl
  | [] => δ
  | v :: vs => (unw δ vs).set v .un
theorem unw_len (δ : List Sl) : ∀ vs : List Nat, (unw δ vs).length = δ.length
  | [] => rfl
  | v :: vs => by rw [unw, List.length_set, unw_len δ vs]
theorem wipe_get {σ : L2.St} : ∀ {vs : List Nat} {i : Nat}, (wipe σ vs)[i]? = if i ∈ vs then σ[i]?.map (fun _ => none) else σ[i]?
  | [], i => by simp [wipe]
  | v :: vs, i => by
    unfold wipe
    by_cases h : v = i
    · subst h
      rw [if_pos (by simp)]
      rw [List.getElem?_set_self', wipe_get (vs := vs)]
      split <;> cases σ[v]? <;> rfl
    · rw [List.getElem?_set_ne h, wipe_get (vs := vs)]
      by_cases h2 : i ∈ vs
      · rw [if_pos h2, if_pos (by simp [h2])]
      · rw [if_neg h2, if_neg (by simp [h2, Ne.symm h])]
theorem wipe_same {σ σ' : L2.St} {vs js : List Nat} (hl : σ'.length = σ.length) (hj : ∀ j ∈ js, j ∈ vs) (h : ∀ i, i ∉ js → σ'[i]? = (wipe σ vs)[i]?) : wipe σ' vs = wipe σ vs := by
  apply List.ext_getElem?
  intro i
  rw [wipe_get, wipe_get]
  by_cases hi : i ∈ vs
  · rw [if_pos hi, if_pos hi]
    by_cases hl2 : i < σ.length
    · rw [List.getElem?_eq_getElem hl2, List.getElem?_eq_getElem (by omega)]
      rfl
    · rw [List.getElem?_eq_none (by omega), List.getElem?_eq_none (by omega)]
  · rw [if_neg hi, if_neg hi, h i (fun z => hi (hj i z)), wipe_get, if_neg hi]
section
variable {K : PySem.W.Frag} {bx : Option Addr} {n m : Nat} {δ δ' : List Sl} {σ : L2.St} {G H G' H' G2 H2 : Hp}
theorem own_set {i : Nat} {d : PyData} {v : V} {q : Addr} (h : OwnA (δ.set i (.val d)) (σ.set i (some v)) q) : OwnA δ σ q := by
  obtain ⟨j, ds, h1, h2⟩ := h
  by_cases hj : i = j
  · subst hj
    rw [List.getElem?_set_self'] at h1
    cases e : δ[i]? with
    | none =>
      rw [e] at h1
      cases h1
    | some s =>
      rw [e] at h1
      cases h1
  · rw [List.getElem?_set_ne hj] at h1 h2
    exact ⟨j, ds, h1, h2⟩
theorem EnvD.set (E : EnvD K bx n δ σ G H) {i : Nat} {v : V} {d : PyData} (r : Rp K G v d) : EnvD K bx n (δ.set i (.val d)) (σ.set i (some v)) G H := by
  refine ⟨E.ex, by rw [List.length_set, List.length_set, E.len], E.bf, E.box, fun j s h => ?_, fun j k ds es l h1 h2 h3 h4 => ?_⟩
  · by_cases hj : i = j
    · subst hj
      rw [List.getElem?_set_self'] at h ⊢
      have hl := E.len
      cases e : δ[i]? with
      | none =>
        rw [e] at h
        cases h
      | some s' =>
        rw [e] at h
        cases h
        have hi : i < σ.length := by
          rw [hl]
          exact (List.getElem?_eq_some_iff.mp e).1
        rw [List.getElem?_eq_getElem hi]
        exact ⟨v, rfl, r⟩
    · rw [List.getElem?_set_ne hj] at h ⊢
      exact E.ok j s h
  · have a1 : j ≠ i := fun z => by
      subst z
      rw [List.getElem?_set_self'] at h1
      cases e : δ[j]? <;> (rw [e] at h1; cases h1)
    have a2 : k ≠ i := fun z => by
      subst z
      rw [List.getElem?_set_self'] at h2
      cases e : δ[k]? <;> (rw [e] at h2; cases h2)
    rw [List.getElem?_set_ne (Ne.symm a1)] at h1 h3
    rw [List.getElem?_set_ne (Ne.symm a2)] at h2 h4
    exact E.ds j k ds es l h1 h2 h3 h4
theorem EnvD.un1 (E : EnvD K bx n δ σ G H) (i : Nat) : EnvD K bx n (δ.set i .un) (σ.set i none) G H := by
  refine ⟨E.ex, by rw [List.length_set, List.length_set, E.len], E.bf, E.box, fun j s h => ?_, fun j k ds es l h1 h2 h3 h4 => ?_⟩
  · by_cases hj : i = j
    · subst hj
      rw [List.getElem?_set_self'] at h
      cases e : δ[i]? with
      | none =>
        rw [e] at h
        cases h
      | some s' =>
        rw [e] at h
        cases h
        trivial
    · rw [List.getElem?_set_ne hj] at h ⊢
      exact E.ok j s h
  · have a1 : j ≠ i := fun z => by
      subst z
      rw [List.getElem?_set_self'] at h1
      cases e : δ[j]? <;> (rw [e] at h1; cases h1)
    have a2 : k ≠ i := fun z => by
      subst z
      rw [List.getElem?_set_self'] at h2
      cases e : δ[k]? <;> (rw [e] at h2; cases h2)
    rw [List.getElem?_set_ne (Ne.symm a1)] at h1 h3
    rw [List.getElem?_set_ne (Ne.symm a2)] at h2 h4
    exact E.ds j k ds es l h1 h2 h3 h4
theorem EnvD.unw (E : EnvD K bx n δ σ G H) : ∀ vs : List Nat, EnvD K bx n (unw δ vs) (wipe σ vs) G H
  | [] => E
  | v :: vs => (E.unw vs).un1 v
/-- a target: js are the slots that it stores -/
def XG (K : PySem.W.Frag) (g : TG) (d : PyData) (δ δ' : List Sl) (js : List Nat) : Prop :=
  ∀ bx n σ G H v, EnvD K bx n δ σ G H → Rp K G v d → ∀ Q : L2.St → Hp → Prop, (∀ σ', EnvD K bx n δ' σ' G H → (∀ l, OwnA δ' σ' l → OwnA δ σ l) → (σ'.length = σ.length ∧ ∀ i, i ∉ js → σ'[i]? = σ[i]?) → Q σ' H) → g v σ H Q
def XGs (K : PySem.W.Frag) (g : TGs) (ds : List PyData) (δ δ' : List Sl) (js : List Nat) : Prop :=
  ∀ bx n σ G H vs, EnvD K bx n δ σ G H → RpAll K G vs ds → ∀ Q : L2.St → Hp → Prop, (∀ σ', EnvD K bx n δ' σ' G H → (∀ l, OwnA δ' σ' l → OwnA δ σ l) → (σ'.length = σ.length ∧ ∀ i, i ∉ js → σ'[i]? = σ[i]?) → Q σ' H) → g vs σ H Q
theorem xg_name {i : Nat} {d : PyData} : XG K (gName i) d δ (δ.set i (.val d)) [i] := fun bx n σ G H v E r Q q =>
  q _ (E.set r) (fun l h => own_set h) ⟨by simp, fun j hj => List.getElem?_set_ne (fun z => hj (by simp [z]))⟩
theorem xgs_nil : XGs K gNil [] δ δ [] := fun bx n σ G H vs E r Q q => by
  cases r
  exact ⟨rfl, q σ E (fun _ h => h) ⟨rfl, fun _ _ => rfl⟩⟩
theorem xgs_cons {i : Nat} {d : PyData} {ds : List PyData} {js : List Nat} {g : TGs} (h : XGs K g ds (δ.set i (.val d)) δ' js) : XGs K (gCons (gName i) g) (d :: ds) δ δ' (i :: js) := fun bx n σ G H vs E r Q q => by
  cases r with
  | cons r1 r2 =>
    refine ⟨_, _, rfl, h bx n _ G H _ (E.set r1) r2 Q fun σ' E' o k => q σ' E' (fun l z => own_set (o l z)) ⟨by rw [k.1, List.length_set], fun j hj => ?_⟩⟩
    rw [k.2 j (fun z => hj (by simp [z]))]
    exact List.getElem?_set_ne (fun z => hj (by simp [z]))
theorem xg_tup {k : Nat} {ds : List PyData} {js : List Nat} {g : TGs} (h : XGs K g ds δ δ' js) (hk : ds.length = k) : XG K (gTup K k g) (.tuple ds) δ δ' js := fun bx n σ G H v E r Q q => by
  obtain ⟨a, xs, rfl, hs, hr⟩ := dp_tup_inv r
  exact ⟨a, xs, rfl, E.ex.t hs, by rw [dpa_len hr, hk], h bx n σ G H xs E hr Q q⟩
theorem xg_tup2 {i j : Nat} {d e : PyData} : XG K (gTup K 2 (gCons (gName i) (gCons (gName j) gNil))) (.tuple [d, e]) δ ((δ.set i (.val d)).set j (.val e)) [i, j] := xg_tup (xgs_cons (xgs_cons xgs_nil)) rfl

/-! ### what is walked -/
def WalkD (K : PySem.W.Frag) (J : It) (items : List PyData) (G0 : Hp) : Prop :=
  ∀ bx n δ σ G H, EnvD K bx n δ σ G H → Ex G0 G → (∀ i, i < items.length → J.go i H) ∧ J.stop items.length H ∧
    ∀ (i : Nat) d x H', items[i]? = some d → J.yld i H x H' → ∃ G', Tr bx n G H G' H' ∧ Rp K G' x d
def XI (K : PySem.W.Frag) (wi : TI) (δ : List Sl) (n n' : Nat) (P : List PyData → Prop) : Prop :=
  ∀ bx σ G H, EnvD K bx n δ σ G H → ∀ R : It → Hp → Prop, (∀ J items G' H', Tr bx n' G H G' H' → WalkD K J items G' → P items → R J H') → wi σ H R
theorem walkD_list {G0 : Hp} {a : Addr} {xs : List V} {ds : List PyData} (h : G0 a = some (.lst xs)) (r : RpAll K G0 xs ds) : WalkD K (Itl K a) ds G0 := fun bx n δ σ G H E e => by
  have hl := dpa_len r
  have hs : SqL K H a xs := SqL.of (E.ex _ _ (e _ _ h))
  refine ⟨fun i hi => ⟨xs, xs[i]'(by omega), hs, by simp [show i < xs.length by omega]⟩, ⟨xs, hs, by omega⟩, fun i d x H' hd y => ?_⟩
  obtain ⟨v, hv, rv⟩ := dpa_get r hd
  obtain ⟨rfl, hy⟩ := y
  have : x = v := Option.some.inj ((hy xs hs).symm.trans hv)
  subst this
  exact ⟨G, E.tr, dp_up e rv⟩
theorem walkD_tup {G0 : Hp} {a : Addr} {xs : List V} {ds : List PyData} (h : G0 a = some (.tup xs)) (r : RpAll K G0 xs ds) : WalkD K (Itt K a) ds G0 := fun bx n δ σ G H E e => by
  have hl := dpa_len r
  have hs : SqT K H a xs := E.ex.t (e _ _ h)
  refine ⟨fun i hi => ⟨xs, xs[i]'(by omega), hs, by simp [show i < xs.length by omega]⟩, ⟨xs, hs, by omega⟩, fun i d x H' hd y => ?_⟩
  obtain ⟨v, hv, rv⟩ := dpa_get r hd
  obtain ⟨rfl, hy⟩ := y
  have : x = v := Option.some.inj ((hy xs hs).symm.trans hv)
  subst this
  exact ⟨G, E.tr, dp_up e rv⟩
def rgD (lo : Int) (n : Nat) : List PyData := (List.range n).map fun i => .int (lo + (i : Nat))
theorem walkD_range {G0 : Hp} {lo : Int} {k : Nat} : WalkD K (Itr lo k) (rgD lo k) G0 := fun bx n δ σ G H E e => by
  have hl : (rgD lo k).length = k := by simp [rgD]
  refine ⟨fun i hi => by rw [hl] at hi; exact hi, by rw [hl]; exact Nat.le_refl _, fun i d x H' hd y => ?_⟩
  obtain ⟨rfl, rfl⟩ := y
  have hi : i < k := by
    rw [← hl]
    exact (List.getElem?_eq_some_iff.mp hd).1
  have e1 : d = .int (lo + (i : Nat)) := by
    unfold rgD at hd
    rw [List.getElem?_map, List.getElem?_range hi] at hd
    exact (Option.some.inj hd).symm
  subst e1
  exact ⟨G, E.tr, .int _⟩
theorem pair_new (E : EnvD K bx n δ σ G H) {T : Addr} {x y : V} {d e : PyData} (hT : H T = none) (r1 : Rp K G x d) (r2 : Rp K G y e) : ∃ G', Tr bx n G H G' (upd H T (.tup [x, y])) ∧ Rp K G' (.ref T) (.tuple [d, e]) := by
  have t := E.trUpd (o := .tup [x, y]) hT
  exact ⟨_, t, .tup upd_same (.cons (dp_up t.gg r1) (.cons (dp_up t.gg r2) .nil))⟩
def zipD (ds es : List PyData) : List PyData := List.zipWith (fun a b => .tuple [a, b]) ds es
theorem zipD_get {ds es : List PyData} {i : Nat} {d : PyData} (h : (zipD ds es)[i]? = some d) : ∃ a b, ds[i]? = some a ∧ es[i]? = some b ∧ d = .tuple [a, b] := by
  unfold zipD at h
  rw [List.getElem?_zipWith] at h
  cases h1 : ds[i]? with
  | none => rw [h1] at h; simp at h
  | some a =>
    cases h2 : es[i]? with
    | none => rw [h1, h2] at h; simp at h
    | some b =>
      rw [h1, h2] at h
      exact ⟨a, b, rfl, rfl, (Option.some.inj h).symm⟩
theorem walkD_zipL {G0 : Hp} {a b : Addr} {xs ys : List V} {ds es : List PyData} (h : G0 a = some (.lst xs)) (r : RpAll K G0 xs ds) (h2 : G0 b = some (.lst ys)) (r2 : RpAll K G0 ys es) : WalkD K (Itz K a b) (zipD ds es) G0 := fun bx n δ σ G H E e => by
  have l1 := dpa_len r
  have l2 := dpa_len r2
  have lz : (zipD ds es).length = min ds.length es.length := by simp [zipD]
  have s1 : SqL K H a xs := SqL.of (E.ex _ _ (e _ _ h))
  have s2 : SqL K H b ys := SqL.of (E.ex _ _ (e _ _ h2))
  refine ⟨fun i hi => ⟨xs, ys, xs[i]'(by omega), ys[i]'(by omega), s1, s2, by simp [show i < xs.length by omega], by simp [show i < ys.length by omega]⟩, ⟨xs, ys, s1, s2, by omega⟩, fun i d x H' hd y => ?_⟩
  obtain ⟨da, db, e1, e2, rfl⟩ := zipD_get hd
  obtain ⟨va, hva, ra⟩ := dpa_get r e1
  obtain ⟨vb, hvb, rb⟩ := dpa_get r2 e2
  obtain ⟨T, x1, y1, rfl, hT, rfl, f1, f2⟩ := y
  have : x1 = va := Option.some.inj ((f1 xs s1).symm.trans hva)
  subst this
  have : y1 = vb := Option.some.inj ((f2 ys s2).symm.trans hvb)
  subst this
  exact pair_new E hT (dp_up e ra) (dp_up e rb)
end
end Dry

set_option Elab.async false
set_option linter.all false
set_option maxRecDepth 100000
set_option maxHeartbeats 4000000
namespace Dry
open PySem PySem.Spec PyProof.Rows L2 RZ
section
variable {K : PySem.W.Frag} {bx : Option Addr} {n n1 n2 m c : Nat} {δ δ' : List Sl} {σ : L2.St} {G H G' H' G2 H2 G0 H0 : Hp} {ta : TA} {te : TE} {tt : TT} {g : TG} {wi : TI} {ds es : List PyData} {d e : PyData} {PI PI' : List PyData → Prop}
theorem walkD_zipT {a b : Addr} {xs ys : List V} (h : G0 a = some (.tup xs)) (r : RpAll K G0 xs ds) (h2 : G0 b = some (.tup ys)) (r2 : RpAll K G0 ys es) : WalkD K (ItzT K a b) (zipD ds es) G0 := fun bx n δ σ G H E e => by
  have l1 := dpa_len r
  have l2 := dpa_len r2
  have lz : (zipD ds es).length = min ds.length es.length := by simp [zipD]
  have s1 : SqT K H a xs := E.ex.t (e _ _ h)
  have s2 : SqT K H b ys := E.ex.t (e _ _ h2)
  refine ⟨fun i hi => ⟨xs, ys, xs[i]'(by omega), ys[i]'(by omega), s1, s2, by simp [show i < xs.length by omega], by simp [show i < ys.length by omega]⟩, ⟨xs, ys, s1, s2, by omega⟩, fun i d x H' hd y => ?_⟩
  obtain ⟨da, db, e1, e2, rfl⟩ := zipD_get hd
  obtain ⟨va, hva, ra⟩ := dpa_get r e1
  obtain ⟨vb, hvb, rb⟩ := dpa_get r2 e2
  obtain ⟨T, x1, y1, rfl, hT, rfl, f1, f2⟩ := y
  have : x1 = va := Option.some.inj ((f1 xs s1).symm.trans hva)
  subst this
  have : y1 = vb := Option.some.inj ((f2 ys s2).symm.trans hvb)
  subst this
  exact pair_new E hT (dp_up e ra) (dp_up e rb)
def enD (ds : List PyData) : List PyData := zipD (rgD 0 ds.length) ds
theorem enD_len : (enD ds).length = ds.length := by simp [enD, zipD, rgD]
theorem enD_get {i : Nat} (h : (enD ds)[i]? = some d) : ∃ b, ds[i]? = some b ∧ d = .tuple [.int (i : Nat), b] := by
  obtain ⟨a, b, h1, h2, rfl⟩ := zipD_get h
  unfold rgD at h1
  rw [List.getElem?_map, List.getElem?_range (List.getElem?_eq_some_iff.mp h2).1] at h1
  have := Option.some.inj h1
  refine ⟨b, h2, ?_⟩
  subst this
  show PyData.tuple [.int (0 + (i : Nat)), b] = _
  rw [Int.zero_add]
theorem walkD_enumL {a : Addr} {xs : List V} (h : G0 a = some (.lst xs)) (r : RpAll K G0 xs ds) : WalkD K (Ite K a) (enD ds) G0 := fun bx n δ σ G H E e => by
  have l1 := dpa_len r
  have s1 : SqL K H a xs := SqL.of (E.ex _ _ (e _ _ h))
  rw [enD_len]
  refine ⟨fun i hi => ⟨xs, xs[i]'(by omega), s1, by simp [show i < xs.length by omega]⟩, ⟨xs, s1, by omega⟩, fun i d x H' hd y => ?_⟩
  obtain ⟨db, e1, rfl⟩ := enD_get hd
  obtain ⟨va, hva, ra⟩ := dpa_get r e1
  obtain ⟨T, x1, rfl, hT, rfl, f1⟩ := y
  have : x1 = va := Option.some.inj ((f1 xs s1).symm.trans hva)
  subst this
  exact pair_new E hT (.int _) (dp_up e ra)

/-! ### iterators -/
theorem xi_list {P : PyData → Prop} (h : XB K te δ n n1 P) (hp : ∀ d, P d → ∃ ds, d = .list ds ∧ PI ds) : XI K (iList K te) δ n n1 PI := fun bx σ G H E R q =>
  h bx σ G H E _ fun v d G1 H1 t1 r1 p1 => by
    obtain ⟨ds, rfl, hP⟩ := hp d p1
    obtain ⟨a, xs, rfl, hs, hr⟩ := dp_lst_inv r1
    exact ⟨a, rfl, ⟨xs, SqL.of (t1.ex _ _ hs)⟩, q _ _ G1 H1 t1 (walkD_list hs hr) hP⟩
theorem xi_tup {P : PyData → Prop} (h : XB K te δ n n1 P) (hp : ∀ d, P d → ∃ ds, d = .tuple ds ∧ PI ds) : XI K (iTup K te) δ n n1 PI := fun bx σ G H E R q =>
  h bx σ G H E _ fun v d G1 H1 t1 r1 p1 => by
    obtain ⟨ds, rfl, hP⟩ := hp d p1
    obtain ⟨a, xs, rfl, hs, hr⟩ := dp_tup_inv r1
    exact ⟨a, rfl, ⟨xs, t1.ex.t hs⟩, q _ _ G1 H1 t1 (walkD_tup hs hr) hP⟩
def XID (K : PySem.W.Frag) (wi : TI) (δ : List Sl) (ds : List PyData) : Prop := ∀ n, XI K wi δ n n (fun z => z = ds)
theorem xid_list (h : XD K te δ (.list ds)) : XID K (iList K te) δ ds := fun n => xi_list (h n) fun d e => ⟨ds, e, rfl⟩
theorem xid_tup (h : XD K te δ (.tuple ds)) : XID K (iTup K te) δ ds := fun n => xi_tup (h n) fun d e => ⟨ds, e, rfl⟩
theorem xi_range1 {PL : List PyData → Prop} (h : XA K ta δ n n1 PL) (hp : ∀ ds, PL ds → ∃ k : Int, ds = [.int k] ∧ -(2 ^ 60) ≤ k ∧ k < 2 ^ 60 ∧ PI (rgD 0 k.toNat)) : XI K (iRng1 ta) δ n n1 PI := fun bx σ G H E R q =>
  h bx σ G H E _ fun vs ds G1 H1 t1 r1 p1 => by
    obtain ⟨k, rfl, h1, h2, hP⟩ := hp ds p1
    obtain ⟨v, rfl, rv⟩ := one_of r1
    cases rv
    exact ⟨k, rfl, by omega, by omega, q _ _ G1 H1 t1 walkD_range hP⟩
theorem xid_range1 {k : Int} (h : XAD K ta δ [.int k]) (h1 : -(2 ^ 60) ≤ k) (h2 : k < 2 ^ 60) : XID K (iRng1 ta) δ (rgD 0 k.toNat) := fun n => xi_range1 (h n) fun ds e => ⟨k, e, h1, h2, rfl⟩
theorem xid_range2 {j k : Int} (h : XAD K ta δ [.int j, .int k]) (h1 : -(2 ^ 60) ≤ j ∧ j < 2 ^ 60) (h2 : -(2 ^ 60) ≤ k ∧ k < 2 ^ 60) : XID K (iRng2 ta) δ (rgD j (k - j).toNat) := fun n bx σ G H E R q =>
  h n bx σ G H E _ fun vs ds G1 H1 t1 r1 p1 => by
    subst p1
    cases r1 with
    | cons ra rb =>
      obtain ⟨v, rfl, rv⟩ := one_of rb
      cases rv
      cases ra
      exact ⟨j, k, rfl, ⟨by omega, by omega, by omega, by omega⟩, q _ _ G1 H1 t1 walkD_range rfl⟩
theorem xid_zipT (h : XAD K ta δ [.tuple ds, .tuple es]) : XID K (iZipA K ta) δ (zipD ds es) := fun n bx σ G H E R q =>
  h n bx σ G H E _ fun vs ds' G1 H1 t1 r1 p1 => by
    subst p1
    cases r1 with
    | cons ra rb =>
      obtain ⟨v, rfl, rv⟩ := one_of rb
      obtain ⟨a, xs, rfl, hs, hr⟩ := dp_tup_inv ra
      obtain ⟨b, ys, rfl, hs2, hr2⟩ := dp_tup_inv rv
      exact ⟨a, b, xs, ys, rfl, .inr ⟨t1.ex.t hs, t1.ex.t hs2, q _ _ G1 H1 t1 (walkD_zipT hs hr hs2 hr2) rfl⟩⟩
theorem xid_zipL (h : XAD K ta δ [.list ds, .list es]) : XID K (iZipA K ta) δ (zipD ds es) := fun n bx σ G H E R q =>
  h n bx σ G H E _ fun vs ds' G1 H1 t1 r1 p1 => by
    subst p1
    cases r1 with
    | cons ra rb =>
      obtain ⟨v, rfl, rv⟩ := one_of rb
      obtain ⟨a, xs, rfl, hs, hr⟩ := dp_lst_inv ra
      obtain ⟨b, ys, rfl, hs2, hr2⟩ := dp_lst_inv rv
      exact ⟨a, b, xs, ys, rfl, .inl ⟨SqL.of (t1.ex _ _ hs), SqL.of (t1.ex _ _ hs2), q _ _ G1 H1 t1 (walkD_zipL hs hr hs2 hr2) rfl⟩⟩
theorem xid_enumL (h : XAD K ta δ [.list ds]) : XID K (iEnum K ta) δ (enD ds) := fun n bx σ G H E R q =>
  h n bx σ G H E _ fun vs ds' G1 H1 t1 r1 p1 => by
    subst p1
    obtain ⟨v, rfl, rv⟩ := one_of r1
    obtain ⟨a, xs, rfl, hs, hr⟩ := dp_lst_inv rv
    exact ⟨a, xs, rfl, SqL.of (t1.ex _ _ hs), q _ _ G1 H1 t1 (walkD_enumL hs hr) rfl⟩

/-! ### comprehensions -/
theorem Tr.mutNew {D : Addr} {o : HO} (t : Tr bx n G0 H0 G H) (hg : G D = none) (h0 : H0 D = none) (hb : bx ≠ some D) : Tr bx n G0 H0 G (upd H D o) := by
  refine ⟨t.gg, fun a u e => ?_, fun q u hq e => ?_, t.nw, fun a ha => ?_⟩
  · rw [upd_ne (show a ≠ D from fun z => by rw [z, hg] at e; cases e)]
    exact t.ex a u e
  · rw [upd_ne (show q ≠ D from fun z => by rw [z, h0] at e; cases e)]
    exact t.fr q u hq e
  · obtain ⟨x, y, z, h1, h2⟩ := t.box a ha
    refine ⟨x, y, z, ?_, h2⟩
    rw [upd_ne (show a ≠ D from fun w => hb (by rw [← w]; exact ha))]
    exact h1
/-- what a comprehension gives after i turns -/
def Sel (keep : Nat → Bool) (R : Nat → PyData → Prop) : Nat → List PyData → Prop
  | 0, ds => ds = []
  | i + 1, ds => if keep i = true then ∃ es d, ds = es ++ [d] ∧ Sel keep R i es ∧ R i d else Sel keep R i ds
theorem Sel.len {keep : Nat → Bool} {R : Nat → PyData → Prop} : ∀ {i : Nat} {ds : List PyData}, Sel keep R i ds → ds.length ≤ i
  | 0, ds, h => by rw [show ds = [] from h]; exact Nat.le_refl _
  | i + 1, ds, h => by
    unfold Sel at h
    split at h
    · obtain ⟨es, d, rfl, h1, _⟩ := h
      have := Sel.len h1
      rw [List.length_append, List.length_singleton]
      omega
    · have := Sel.len h
      omega
theorem xn_lc {vs js : List Nat} {keep : List PyData → Nat → Bool} {R : List PyData → Nat → PyData → Prop} {f : List PyData → Nat → List Sl} (hi : XI K wi δ n n1 PI) (hjs : ∀ j ∈ js, j ∈ vs)
    (hn : ∀ items, PI items → items.length ≤ 50000 ∧ n1 + items.length * c ≤ n2)
    (ht : ∀ items, PI items → ∀ (i : Nat) d, items[i]? = some d → XG K g d (unw δ vs) (f items i) js ∧ XT K tt (f items i) (keep items i) ∧ (keep items i = true → ∀ m, m + c ≤ n2 → XB K te (f items i) m (m + c) (R items i))) :
    XN K (tLc wi g tt te vs) δ n n2 (fun z => ∃ items, PI items ∧ Sel (keep items) (R items) items.length z) := fun bx σ G H E Q q =>
  hi bx σ G H E _ fun J items G1 H1 t1 W hP D hD => by
    obtain ⟨hlen, hn2⟩ := hn items hP
    have hD0 : H D = none := by
      cases z : H D with
      | none => rfl
      | some o => exact absurd hD (t1.live (by rw [z]; exact fun y => nomatch y))
    have hbD : bx ≠ some D := fun z => (E.box D z).ne hD0
    have gD0 : G D = none := E.ex.free hD0
    have gD1 : G1 D = none := t1.ex.free hD
    refine ⟨fun i k Hc => k = items.length - i ∧ i ≤ items.length ∧ ∃ Gc acc ds, Tr bx (n1 + i * c) G H Gc Hc ∧ Ex G1 Gc ∧ Gc D = none ∧ Hc D = some (.lst acc) ∧ RpAll K Gc acc ds ∧ Sel (keep items) (R items) i ds,
      ⟨items.length, by simp, Nat.zero_le _, G1, [], [], (by rw [Nat.zero_mul]; exact t1.mutNew gD1 hD0 hbD), Ex.refl _, gD1, upd_same, .nil, rfl⟩, ?_⟩
    rintro i k Hc ⟨rfl, hle, Gc, acc, ds, tc, eG, gD, hDc, racc, hsel⟩
    have Ec := E.step tc
    obtain ⟨w1, w2, w3⟩ := W bx _ δ σ Gc Hc Ec eG
    by_cases hi' : i < items.length
    · refine .inr ⟨w1 i hi', fun H' => (fun k Hc => k = items.length - (i + 1) ∧ i + 1 ≤ items.length ∧ ∃ Gc acc ds, Tr bx (n1 + (i + 1) * c) G H Gc Hc ∧ Ex G1 Gc ∧ Gc D = none ∧ Hc D = some (.lst acc) ∧ RpAll K Gc acc ds ∧ Sel (keep items) (R items) (i + 1) ds) (items.length - (i + 1)) H',
        fun H' h' => ⟨items.length - (i + 1), by omega, h'⟩, fun x H' hy => ?_⟩
      obtain ⟨G', t', rx⟩ := w3 i _ x H' (List.getElem?_eq_getElem hi') hy
      obtain ⟨hg, htt, hte⟩ := ht items hP i _ (List.getElem?_eq_getElem hi')
      have E' := Ec.step t'
      refine hg bx _ (wipe σ vs) G' H' x (E'.unw vs) rx _ fun σ2 E2 _ hk => ⟨wipe_same (by rw [hk.1, wipe_length]) hjs hk.2, ?_⟩
      refine htt bx _ σ2 G' H' E2 _ fun G3 H3 t3 => ?_
      have T3 := tc.trans (t'.trans t3)
      have hD3 : H3 D = some (.lst acc) := t3.fr D _ hbD (t'.fr D _ hbD hDc)
      have gD3 : G3 D = none := t3.nw D (t'.live (by rw [hDc]; exact fun z => nomatch z)) (t'.nw D (by rw [hDc]; exact fun z => nomatch z) gD)
      have hm : n1 + i * c ≤ n1 + (i + 1) * c := Nat.add_le_add_left (Nat.mul_le_mul_right c (Nat.le_succ i)) n1
      cases hkp : keep items i with
      | false =>
        rw [if_neg Bool.false_ne_true]
        exact ⟨rfl, hi', G3, acc, ds, T3.mono hm, eG.trans (t'.gg.trans t3.gg), gD3, hD3, dpa_up (t'.gg.trans t3.gg) racc, by unfold Sel; rw [hkp, if_neg Bool.false_ne_true]; exact hsel⟩
      | true =>
        rw [if_pos rfl]
        have hmc : n1 + i * c + c ≤ n2 := by
          have a1 : (i + 1) * c ≤ items.length * c := Nat.mul_le_mul_right c hi'
          rw [Nat.succ_mul] at a1
          omega
        refine hte hkp _ hmc bx σ2 G3 H3 (E2.step t3) _ fun v dv G4 H4 t4 r4 p4 => ⟨acc, t4.fr D _ hbD hD3, ?_, rfl, hi', G4, acc ++ [v], ds ++ [dv], ?_, eG.trans (t'.gg.trans (t3.gg.trans t4.gg)), t4.nw D (by rw [hD3]; exact fun z => nomatch z) gD3, upd_same, dpa_append (dpa_up (t'.gg.trans (t3.gg.trans t4.gg)) racc) (.cons r4 .nil), ?_⟩
        · have := hsel.len
          have := dpa_len racc
          exact sz_lt (by omega)
        · refine Tr.mutNew ?_ (t4.nw D (by rw [hD3]; exact fun z => nomatch z) gD3) hD0 hbD
          have T4 := T3.trans t4
          rw [Nat.add_assoc, ← Nat.succ_mul] at T4
          exact T4
        · unfold Sel
          rw [hkp, if_pos rfl]
          exact ⟨ds, dv, rfl, hsel, p4⟩
    · have e : i = items.length := by omega
      subst e
      refine .inl ⟨w2, q D acc ds Gc Hc (tc.mono hn2) hD0 gD hDc racc ⟨items, hP, hsel⟩⟩
end
end Dry

set_option Elab.async false
set_option linter.all false
set_option maxRecDepth 100000
set_option maxHeartbeats 4000000
namespace Dry
open PySem PySem.Spec PyProof.Rows L2 RZ
/-! ### comprehensions over typed items -/
section
variable {K : PySem.W.Frag} {n n1 n2 m c : Nat} {δ : List Sl} {ta : TA} {te : TE} {tt : TT} {g : TG} {wi : TI} {α β : Type} {xs : List α} {ys : List β} {A F : α → PyData} {B : β → PyData} {f : α → List Sl} {vs js : List Nat} {b : α → Bool}
theorem xt_yes : XT K tYes δ true := fun bx n σ G H E Q q => q G H E.tr
theorem map_get {i : Nat} {d : PyData} (h : (xs.map A)[i]? = some d) : ∃ x, xs[i]? = some x ∧ d = A x := by
  rw [List.getElem?_map] at h
  cases e : xs[i]? with
  | none => rw [e] at h; cases h
  | some x => rw [e] at h; exact ⟨x, rfl, (Option.some.inj h).symm⟩
theorem sel_fil : ∀ {i : Nat} {ds : List PyData}, i ≤ xs.length → Sel (fun i => match xs[i]? with | some x => b x | none => false) (fun i d => ∃ x, xs[i]? = some x ∧ d = F x) i ds → ds = ((xs.take i).filter b).map F
  | 0, ds, _, h => by rw [show ds = [] from h]; rfl
  | i + 1, ds, hi, h => by
    unfold Sel at h
    have e1 : xs[i]? = some (xs[i]'(by omega)) := List.getElem?_eq_getElem (by omega)
    rw [List.take_succ, e1, List.filter_append, List.map_append]
    simp only [e1] at h
    cases hb : b (xs[i]'(by omega)) with
    | true =>
      rw [hb, if_pos rfl] at h
      obtain ⟨es, d, rfl, h1, x, h2, rfl⟩ := h
      rw [sel_fil (by omega) h1]
      cases Option.some.inj h2
      simp [hb]
    | false =>
      rw [hb, if_neg Bool.false_ne_true] at h
      rw [sel_fil (by omega) h]
      simp [hb]
theorem xn_lcFil (hi : XID K wi δ (xs.map A)) (hjs : ∀ j ∈ js, j ∈ vs) (hl : xs.length ≤ 50000) (hg : ∀ x ∈ xs, XG K g (A x) (unw δ vs) (f x) js) (ht : ∀ x ∈ xs, XT K tt (f x) (b x)) (he : ∀ x ∈ xs, b x = true → XD K te (f x) (F x)) :
    XN K (tLc wi g tt te vs) δ n n (fun z => z = (xs.filter b).map F) := by
  refine (xn_lc (c := 0) (n2 := n) (keep := fun _ i => match xs[i]? with | some x => b x | none => false) (R := fun _ i d => ∃ x, xs[i]? = some x ∧ d = F x) (f := fun _ i => match xs[i]? with | some x => f x | none => []) (hi n) hjs (fun items e => ?_) (fun items e i d hd => ?_)).imp (Nat.le_refl _) fun z ⟨items, e, hs⟩ => ?_
  · subst e
    rw [List.length_map]
    exact ⟨hl, by omega⟩
  · subst e
    obtain ⟨x, hx, rfl⟩ := map_get hd
    simp only [hx]
    have hm := List.mem_of_getElem? hx
    exact ⟨hg x hm, ht x hm, fun hb m _ => (he x hm hb m).imp (Nat.le_refl _) fun d e => ⟨x, rfl, e⟩⟩
  · subst e
    have h2 := sel_fil (by rw [List.length_map]; exact Nat.le_refl _) hs
    rw [h2, List.length_map, List.take_length]
theorem xd_lcFil (hi : XID K wi δ (xs.map A)) (hjs : ∀ j ∈ js, j ∈ vs) (hl : xs.length ≤ 50000) (hg : ∀ x ∈ xs, XG K g (A x) (unw δ vs) (f x) js) (ht : ∀ x ∈ xs, XT K tt (f x) (b x)) (he : ∀ x ∈ xs, b x = true → XD K te (f x) (F x)) :
    XD K (tLc wi g tt te vs) δ (.list ((xs.filter b).map F)) := XN.xd fun n => xn_lcFil hi hjs hl hg ht he
theorem xn_lcMap (hi : XID K wi δ (xs.map A)) (hjs : ∀ j ∈ js, j ∈ vs) (hl : xs.length ≤ 50000) (hg : ∀ x ∈ xs, XG K g (A x) (unw δ vs) (f x) js) (he : ∀ x ∈ xs, XD K te (f x) (F x)) :
    XN K (tLc wi g tYes te vs) δ n n (fun z => z = xs.map F) := (xn_lcFil (b := fun _ => true) hi hjs hl hg (fun _ _ => xt_yes) (fun x h _ => he x h)).imp (Nat.le_refl _) fun z e => by rw [e, List.filter_eq_self.mpr (fun _ _ => rfl)]
theorem xd_lcMap (hi : XID K wi δ (xs.map A)) (hjs : ∀ j ∈ js, j ∈ vs) (hl : xs.length ≤ 50000) (hg : ∀ x ∈ xs, XG K g (A x) (unw δ vs) (f x) js) (he : ∀ x ∈ xs, XD K te (f x) (F x)) :
    XD K (tLc wi g tYes te vs) δ (.list (xs.map F)) := XN.xd fun n => xn_lcMap hi hjs hl hg he
theorem sel_all {R : α → PyData → Prop} : ∀ {i : Nat} {ds : List PyData}, i ≤ xs.length → Sel (fun _ => true) (fun i d => ∃ x, xs[i]? = some x ∧ R x d) i ds → Paired R (xs.take i) ds
  | 0, ds, _, h => by rw [show ds = [] from h]; exact .nil
  | i + 1, ds, hi, h => by
    unfold Sel at h
    rw [if_pos rfl] at h
    obtain ⟨es, d, rfl, h1, x, h2, h3⟩ := h
    rw [List.take_succ, h2]
    have app : ∀ {l1 : List α} {l2 : List PyData}, Paired R l1 l2 → Paired R (l1 ++ [x]) (l2 ++ [d]) := fun {l1 l2} p => by
      induction p with
      | nil => exact .cons h3 .nil
      | cons r _ ih => exact .cons r ih
    exact app (sel_all (by omega) h1)
/-- elements that draw -/
theorem xn_lcDraw {R : α → PyData → Prop} (hi : XI K wi δ n n1 (fun z => z = xs.map A)) (hjs : ∀ j ∈ js, j ∈ vs) (hl : xs.length ≤ 50000) (hg : ∀ x ∈ xs, XG K g (A x) (unw δ vs) (f x) js) (he : ∀ x ∈ xs, ∀ m, m + c ≤ n2 → XB K te (f x) m (m + c) (R x)) (hn : n1 + xs.length * c ≤ n2) :
    XN K (tLc wi g tYes te vs) δ n n2 (fun z => Paired R xs z) := by
  refine (xn_lc (c := c) (n2 := n2) (keep := fun _ _ => true) (R := fun _ i d => ∃ x, xs[i]? = some x ∧ R x d) (f := fun _ i => match xs[i]? with | some x => f x | none => []) hi hjs (fun items e => ?_) (fun items e i d hd => ?_)).imp (Nat.le_refl _) fun z ⟨items, e, hs⟩ => ?_
  · subst e
    rw [List.length_map]
    exact ⟨hl, hn⟩
  · subst e
    obtain ⟨x, hx, rfl⟩ := map_get hd
    simp only [hx]
    have hm := List.mem_of_getElem? hx
    exact ⟨hg x hm, xt_yes, fun _ m hm' => (he x hm m hm').imp (Nat.le_refl _) fun d e => ⟨x, rfl, e⟩⟩
  · subst e
    have h2 := sel_all (by rw [List.length_map]; exact Nat.le_refl _) hs
    rw [List.length_map, List.take_length] at h2
    exact h2
theorem XID.is {ds es : List PyData} (h : XID K wi δ ds) (e : ds = es) : XID K wi δ es := by rw [← e]; exact h
theorem zipD_map : zipD (xs.map A) (ys.map B) = (xs.zip ys).map fun p => .tuple [A p.1, B p.2] := by
  unfold zipD
  rw [List.zipWith_map, List.zip_eq_zipWith, List.map_zipWith]
theorem enD_map : enD (xs.map A) = xs.zipIdx.map fun p => .tuple [.int (p.2 : Nat), A p.1] := by
  apply List.ext_getElem?
  intro i
  rw [List.getElem?_map, List.getElem?_zipIdx]
  cases e : xs[i]? with
  | none =>
    have : xs.length ≤ i := List.getElem?_eq_none_iff.mp e
    rw [List.getElem?_eq_none (by rw [enD_len, List.length_map]; exact this)]
    rfl
  | some x =>
    have hl : i < xs.length := (List.getElem?_eq_some_iff.mp e).1
    have hl2 : i < (enD (xs.map A)).length := by rw [enD_len, List.length_map]; exact hl
    obtain ⟨b, h1, h2⟩ := enD_get (List.getElem?_eq_getElem hl2)
    rw [List.getElem?_eq_getElem hl2, h2]
    rw [List.getElem?_map, e] at h1
    cases h1
    simp
end

/-! ### statements -/
structure AE where
  nx : List Sl → Nat → Prop
  rt : PyData → Nat → Prop
  bk : List Sl → Nat → Prop := fun _ _ => False
  ct : List Sl → Nat → Prop := fun _ _ => False
structure Sr (bx : Option Addr) (δ : List Sl) (σ : L2.St) (G H : Hp) (δ' : List Sl) (σ' : L2.St) (G' H' : Hp) : Prop where
  gg : Ex G G'
  fr : ∀ q o, bx ≠ some q → ¬ OwnA δ σ q → H q = some o → H' q = some o
  nw : ∀ q, H q ≠ none → G q = none → ¬ OwnA δ σ q → G' q = none
  ow : ∀ q, OwnA δ' σ' q → OwnA δ σ q ∨ H q = none
  lv : ∀ q, H q ≠ none → H' q ≠ none
structure Rr (bx : Option Addr) (n : Nat) (δ : List Sl) (σ : L2.St) (G H G' H' : Hp) : Prop where
  gg : Ex G G'
  ex : Ex G' H'
  fr : ∀ q o, bx ≠ some q → ¬ OwnA δ σ q → H q = some o → H' q = some o
  nw : ∀ q, H q ≠ none → G q = none → ¬ OwnA δ σ q → G' q = none
  box : ∀ a, bx = some a → BoxAt H' a n
def SJ (K : PySem.W.Frag) (t : TS) (δ : List Sl) (n : Nat) (E : AE) : Prop :=
  ∀ bx σ G H, EnvD K bx n δ σ G H → ∀ D : Ends,
    (∀ δ' n' σ' G' H', EnvD K bx n' δ' σ' G' H' → Sr bx δ σ G H δ' σ' G' H' → E.nx δ' n' → D.nx σ' H') →
    (∀ d n' v G' H', Rr bx n' δ σ G H G' H' → Rp K G' v d → E.rt d n' → D.rt v H') →
    (∀ δ' n' σ' G' H', EnvD K bx n' δ' σ' G' H' → Sr bx δ σ G H δ' σ' G' H' → E.bk δ' n' → D.bk σ' H') →
    (∀ δ' n' σ' G' H', EnvD K bx n' δ' σ' G' H' → Sr bx δ σ G H δ' σ' G' H' → E.ct δ' n' → D.ct σ' H') → t D σ H
section
variable {K : PySem.W.Frag} {bx : Option Addr} {n n1 n2 m : Nat} {δ δ' δ1 δ2 : List Sl} {σ σ' σ1 σ2 : L2.St} {G H G' H' G1 H1 G2 H2 : Hp} {t u tb : TS} {te ta : TE} {tt : TT} {g : TG} {wi : TI} {E E' : AE} {P P1 P2 : PyData → Prop} {d : PyData} {b : Bool}
theorem Sr.refl (E : EnvD K bx n δ σ G H) : Sr bx δ σ G H δ σ G H := ⟨Ex.refl _, fun _ _ _ _ e => e, fun _ _ e _ => e, fun _ h => .inl h, fun _ h => h⟩
theorem Sr.trans (a : Sr bx δ σ G H δ1 σ1 G1 H1) (b : Sr bx δ1 σ1 G1 H1 δ2 σ2 G2 H2) : Sr bx δ σ G H δ2 σ2 G2 H2 :=
  ⟨a.gg.trans b.gg,
   fun q o hb ho e => b.fr q o hb (fun z => (a.ow q z).elim ho (fun z => by rw [z] at e; cases e)) (a.fr q o hb ho e),
   fun q h e ho => b.nw q (a.lv q h) (a.nw q h e ho) (fun z => (a.ow q z).elim ho h),
   fun q h => (b.ow q h).elim (fun z => a.ow q z) (fun z => .inr (by
     cases y : H q with
     | none => rfl
     | some o => exact absurd z (a.lv q (by rw [y]; exact fun w => nomatch w)))),
   fun q h => b.lv q (a.lv q h)⟩
theorem Sr.rr {n : Nat} (a : Sr bx δ σ G H δ1 σ1 G1 H1) (b : Rr bx n δ1 σ1 G1 H1 G2 H2) : Rr bx n δ σ G H G2 H2 :=
  ⟨a.gg.trans b.gg, b.ex,
   fun q o hb ho e => b.fr q o hb (fun z => (a.ow q z).elim ho (fun z => by rw [z] at e; cases e)) (a.fr q o hb ho e),
   fun q h e ho => b.nw q (a.lv q h) (a.nw q h e ho) (fun z => (a.ow q z).elim ho h), b.box⟩
theorem Tr.sr (t : Tr bx m G H G' H') (ho : ∀ q, OwnA δ' σ' q → OwnA δ σ q ∨ H q = none) : Sr bx δ σ G H δ' σ' G' H' :=
  ⟨t.gg, fun q o hb _ e => t.fr q o hb e, fun q h e _ => t.nw q h e, ho, fun _ h => t.live h⟩
theorem Tr.rr (t : Tr bx m G H G' H') : Rr bx m δ σ G H G' H' := ⟨t.gg, t.ex, fun q o hb _ e => t.fr q o hb e, fun q h e _ => t.nw q h e, t.box⟩
theorem sj_seq (h : SJ K t δ n { E with nx := fun δ' n' => SJ K u δ' n' E }) : SJ K (tSeq t u) δ n E := fun bx σ G H En D h1 h2 h3 h4 =>
  h bx σ G H En { D with nx := u D } (fun δ' n' σ' G' H' E' s j => j bx σ' G' H' E' D (fun δ2 n2 σ2 G2 H2 E2 s2 => h1 δ2 n2 σ2 G2 H2 E2 (s.trans s2)) (fun d n2 v G2 H2 r => h2 d n2 v G2 H2 (s.rr r))
    (fun δ2 n2 σ2 G2 H2 E2 s2 => h3 δ2 n2 σ2 G2 H2 E2 (s.trans s2)) (fun δ2 n2 σ2 G2 H2 E2 s2 => h4 δ2 n2 σ2 G2 H2 E2 (s.trans s2))) h2 h3 h4
theorem sj_next (h : E.nx δ n) : SJ K tNext δ n E := fun bx σ G H En D h1 h2 h3 h4 => h1 δ n σ G H En (Sr.refl En) h
theorem sj_cont (h : E.ct δ n) : SJ K tCont δ n E := fun bx σ G H En D h1 h2 h3 h4 => h4 δ n σ G H En (Sr.refl En) h
theorem sj_break (h : E.bk δ n) : SJ K tBreak δ n E := fun bx σ G H En D h1 h2 h3 h4 => h3 δ n σ G H En (Sr.refl En) h
theorem sj_ret (h : XB K te δ n n1 P) (k : ∀ d, P d → E.rt d n1) : SJ K (tRet te) δ n E := fun bx σ G H En D h1 h2 h3 h4 =>
  h bx σ G H En D.rt fun v d G' H' t r p => h2 d n1 v G' H' t.rr r (k d p)
theorem sj_retD (h : XD K te δ d) (k : E.rt d n) : SJ K (tRet te) δ n E := sj_ret (h n) fun e he => by rw [he]; exact k
theorem sj_drop (h : XB K te δ n n1 P) (k : E.nx δ n1) : SJ K (tDrop te) δ n E := fun bx σ G H En D h1 h2 h3 h4 =>
  h bx σ G H En _ fun v d G' H' t r p => h1 δ n1 σ G' H' (En.step t) (t.sr fun _ h => .inl h) k
theorem sj_if (h : XT K tt δ b) (k1 : b = true → SJ K t δ n E) (k2 : b = false → SJ K u δ n E) : SJ K (tIfS tt t u) δ n E := fun bx σ G H En D h1 h2 h3 h4 =>
  h bx n σ G H En _ fun G' H' tr => by
    have s : Sr bx δ σ G H δ σ G' H' := tr.sr fun _ h => .inl h
    have go : ∀ {v : TS}, SJ K v δ n E → v D σ H' := fun j => j bx σ G' H' (En.step tr) D (fun δ2 n2 σ2 G2 H2 E2 s2 => h1 δ2 n2 σ2 G2 H2 E2 (s.trans s2)) (fun d n2 v G2 H2 r => h2 d n2 v G2 H2 (s.rr r))
      (fun δ2 n2 σ2 G2 H2 E2 s2 => h3 δ2 n2 σ2 G2 H2 E2 (s.trans s2)) (fun δ2 n2 σ2 G2 H2 E2 s2 => h4 δ2 n2 σ2 G2 H2 E2 (s.trans s2))
    cases b with
    | true =>
      show t D σ H'
      exact go (k1 rfl)
    | false =>
      show u D σ H'
      exact go (k2 rfl)
/-- a test whose answer is known -/
theorem sj_ifF (h : XT K tt δ false) (k2 : SJ K u δ n E) : SJ K (tIfS tt t u) δ n E := sj_if h (fun z => nomatch z) fun _ => k2
theorem sj_ifT (h : XT K tt δ true) (k1 : SJ K t δ n E) : SJ K (tIfS tt t u) δ n E := sj_if h (fun _ => k1) fun z => nomatch z
theorem SJ.mono (h : SJ K t δ n E) (h1 : ∀ δ' n', E.nx δ' n' → E'.nx δ' n') (h2 : ∀ d n', E.rt d n' → E'.rt d n') (h3 : ∀ δ' n', E.bk δ' n' → E'.bk δ' n') (h4 : ∀ δ' n', E.ct δ' n' → E'.ct δ' n') : SJ K t δ n E' := fun bx σ G H En D k1 k2 k3 k4 =>
  h bx σ G H En D (fun δ' n' σ' G' H' e s z => k1 δ' n' σ' G' H' e s (h1 _ _ z)) (fun d n' v G' H' r1 r2 z => k2 d n' v G' H' r1 r2 (h2 _ _ z)) (fun δ' n' σ' G' H' e s z => k3 δ' n' σ' G' H' e s (h3 _ _ z)) (fun δ' n' σ' G' H' e s z => k4 δ' n' σ' G' H' e s (h4 _ _ z))
/-! an assignment -/
/-- what a slot may be given -/
def SlNew (K : PySem.W.Frag) (bx : Option Addr) (δ : List Sl) (σ : L2.St) (G H : Hp) (v : V) : Sl → Prop
  | .un => True
  | .val d => Rp K G v d
  | .own ds => ∃ (p : Addr) (xs : List V), v = .ref p ∧ bx ≠ some p ∧ ¬ OwnA δ σ p ∧ G p = none ∧ H p = some (.lst xs) ∧ RpAll K G xs ds
  | .dic kvs => ∃ a : Addr, v = .ref a ∧ bx ≠ some a ∧ H a = some (.dT kvs)
  | .box => False
  | .fz _ => False
theorem get_set {α : Type} {l : List α} {i j : Nat} {x y : α} (h : (l.set i x)[j]? = some y) : (i = j ∧ x = y ∧ j < l.length) ∨ (i ≠ j ∧ l[j]? = some y) := by
  by_cases hj : i = j
  · subst hj
    rw [List.getElem?_set_self'] at h
    cases e : l[i]? with
    | none => rw [e] at h; cases h
    | some z =>
      rw [e] at h
      exact .inl ⟨rfl, Option.some.inj h, (List.getElem?_eq_some_iff.mp e).1⟩
  · rw [List.getElem?_set_ne hj] at h
    exact .inr ⟨hj, h⟩
theorem EnvD.setS (E : EnvD K bx n δ σ G H) {i : Nat} {v : V} {s : Sl} (r : SlNew K bx δ σ G H v s) : EnvD K bx n (δ.set i s) (σ.set i (some v)) G H := by
  have hl := E.len
  refine ⟨E.ex, by rw [List.length_set, List.length_set, E.len], E.bf, E.box, fun j s' h => ?_, fun j k ds es l h1 h2 h3 h4 => ?_⟩
  · rcases get_set h with ⟨rfl, rfl, hj⟩ | ⟨hj, h⟩
    · rw [List.getElem?_set_self (by omega)]
      cases s with
      | un => trivial
      | val d => exact ⟨v, rfl, r⟩
      | own ds =>
        obtain ⟨p, xs, rfl, h1, h2, h3, h4, h5⟩ := r
        exact ⟨p, xs, rfl, h1, h3, h4, h5⟩
      | dic kvs =>
        obtain ⟨p, rfl, h1, h2⟩ := r
        exact ⟨p, rfl, h1, h2⟩
      | box => exact r.elim
      | fz _ => exact r.elim
    · rw [List.getElem?_set_ne hj]
      exact E.ok j s' h
  · rcases get_set h1 with ⟨rfl, e1, hj⟩ | ⟨hj, h1'⟩
    · rcases get_set h2 with ⟨rfl, e2, hk⟩ | ⟨hk, h2'⟩
      · rfl
      · subst e1
        obtain ⟨p, xs, rfl, _, h5, _⟩ := r
        rw [List.getElem?_set_self (by omega)] at h3
        rw [List.getElem?_set_ne hk] at h4
        cases h3
        exact absurd ⟨k, es, h2', h4⟩ h5
    · rcases get_set h2 with ⟨rfl, e2, hk⟩ | ⟨hk, h2'⟩
      · subst e2
        obtain ⟨p, xs, rfl, _, h5, _⟩ := r
        rw [List.getElem?_set_self (by omega)] at h4
        rw [List.getElem?_set_ne hj] at h3
        cases h4
        exact absurd ⟨j, ds, h1', h3⟩ h5
      · rw [List.getElem?_set_ne hj] at h3
        rw [List.getElem?_set_ne hk] at h4
        exact E.ds j k ds es l h1' h2' h3 h4
theorem own_setS {i : Nat} {s : Sl} {v : V} {q : Addr} (hl : σ.length = δ.length) (h : OwnA (δ.set i s) (σ.set i (some v)) q) : OwnA δ σ q ∨ (v = .ref q ∧ ∃ ds, s = .own ds) := by
  obtain ⟨j, ds, h1, h2⟩ := h
  rcases get_set h1 with ⟨rfl, e1, hj⟩ | ⟨hj, h1⟩
  · rw [List.getElem?_set_self (by omega)] at h2
    exact .inr ⟨Option.some.inj (Option.some.inj h2), ds, e1⟩
  · rw [List.getElem?_set_ne hj] at h2
    exact .inl ⟨j, ds, h1, h2⟩
/-- an expression for a slot -/
def XS (K : PySem.W.Frag) (te : TE) (δ : List Sl) (n n' : Nat) (P : Sl → Prop) : Prop :=
  ∀ bx σ G H, EnvD K bx n δ σ G H → ∀ Q : VK, (∀ v s G' H', Tr bx n' G H G' H' → SlNew K bx δ σ G' H' v s → (∀ p ds, v = .ref p → s = .own ds → H p = none) → P s → Q v H') → te σ H Q
theorem xs_val (h : XB K te δ n n1 P) : XS K te δ n n1 (fun s => ∃ d, s = .val d ∧ P d) := fun bx σ G H En Q q =>
  h bx σ G H En Q fun v d G' H' t r p => q v (.val d) G' H' t r (fun _ _ _ z => nomatch z) ⟨d, rfl, p⟩
theorem xs_own {PL : List PyData → Prop} (h : XN K te δ n n1 PL) : XS K te δ n n1 (fun s => ∃ ds, s = .own ds ∧ PL ds) := fun bx σ G H En Q q =>
  h bx σ G H En Q fun p xs ds G' H' t hp gp hl r p5 => q (.ref p) (.own ds) G' H' t ⟨p, xs, rfl, fun z => (En.box p z).ne hp, (fun ⟨i, es, h1, h2⟩ => by
    obtain ⟨l, ys, e, _, _, hll, _⟩ := En.ok i _ h1
    rw [h2] at e
    cases e
    rw [hp] at hll
    cases hll), gp, hl, r⟩ (fun p' _ e _ => by cases e; exact hp) ⟨ds, rfl, p5⟩
theorem sj_asgS {i : Nat} {PS : Sl → Prop} (h : XS K te δ n n1 PS) (k : ∀ s, PS s → E.nx (δ.set i s) n1) : SJ K (tAsg te (gName i)) δ n E := fun bx σ G H En D h1 h2 h3 h4 =>
  h bx σ G H En _ fun v s G' H' t r hf p => h1 _ n1 _ G' H' ((En.step t).setS r) (t.sr fun q ho => (own_setS En.len ho).imp id fun ⟨e1, ds, e2⟩ => hf q ds e1 e2) (k s p)
theorem sj_asg {i : Nat} (h : XB K te δ n n1 P) (k : ∀ d, P d → E.nx (δ.set i (.val d)) n1) : SJ K (tAsg te (gName i)) δ n E := sj_asgS (xs_val h) fun s ⟨d, e, p⟩ => by rw [e]; exact k d p
theorem sj_asgD {i : Nat} (h : XD K te δ d) (k : E.nx (δ.set i (.val d)) n) : SJ K (tAsg te (gName i)) δ n E := sj_asg (h n) fun e he => by rw [he]; exact k
theorem sj_asgN {i : Nat} {PL : List PyData → Prop} (h : XN K te δ n n1 PL) (k : ∀ ds, PL ds → E.nx (δ.set i (.own ds)) n1) : SJ K (tAsg te (gName i)) δ n E := sj_asgS (xs_own h) fun s ⟨d, e, p⟩ => by rw [e]; exact k d p
/-- targets of a value's parts -/
theorem sj_asgG {js : List Nat} {f : PyData → List Sl} (h : XB K te δ n n1 P) (hg : ∀ d, P d → XG K g d δ (f d) js) (k : ∀ d, P d → E.nx (f d) n1) : SJ K (tAsg te g) δ n E := fun bx σ G H En D h1 h2 h3 h4 =>
  h bx σ G H En _ fun v d G' H' t r p => hg d p bx n1 σ G' H' v (En.step t) r _ fun σ' E' ho _ => h1 _ n1 σ' G' H' E' (t.sr fun q z => .inl (ho q z)) (k d p)
theorem sj_asgGD {js : List Nat} (h : XD K te δ d) (hg : XG K g d δ δ' js) (k : E.nx δ' n) : SJ K (tAsg te g) δ n E := sj_asgG (f := fun _ => δ') (h n) (fun e he => by rw [he]; exact hg) fun _ _ => k
theorem sj_par {i j : Nat} {PS PS' : Sl → Prop} (h : XS K ta δ n n1 PS) (h' : XS K te δ n1 n2 PS') (k : ∀ s s', PS s → PS' s' → E.nx ((δ.set i s).set j s') n2) : SJ K (tPar i j (tCons ta (tCons te tNil))) δ n E := fun bx σ G H En D h1 h2 h3 h4 =>
  h bx σ G H En _ fun v s G1 H1 t1 r1 hf1 p1 => h' bx σ G1 H1 (En.step t1) _ fun w s' G2 H2 t2 r2 hf2 p2 => ⟨v, w, rfl, by
    have E2 := (En.step t1).step t2
    have r1' : SlNew K bx δ σ G2 H2 v s := by
      cases s with
      | un => trivial
      | val d => exact dp_up t2.gg r1
      | own ds =>
        obtain ⟨p, xs, e, hb, ho, g, hl, r⟩ := r1
        exact ⟨p, xs, e, hb, ho, t2.nw p (by rw [hl]; exact fun z => nomatch z) g, t2.fr p _ hb hl, dpa_up t2.gg r⟩
      | dic kvs =>
        obtain ⟨p, e, hb, h⟩ := r1
        exact ⟨p, e, hb, t2.fr p _ hb h⟩
      | box => exact r1
      | fz _ => exact r1
    have E3 := E2.setS (i := i) r1'
    have r2' : SlNew K bx (δ.set i s) (σ.set i (some v)) G2 H2 w s' := by
      cases s' with
      | un => trivial
      | val d => exact r2
      | own ds =>
        obtain ⟨p, xs, e, hb, ho, g, hl, r⟩ := r2
        refine ⟨p, xs, e, hb, fun z => ?_, g, hl, r⟩
        rcases own_setS En.len z with z | ⟨z1, es, z2⟩
        · exact ho z
        · subst z2
          obtain ⟨p', ys, e', _, _, _, hl', _⟩ := r1
          have a1 : H1 p = none := hf2 p ds e rfl
          rw [z1] at e'
          cases e'
          rw [hl'] at a1
          cases a1
      | dic kvs => exact r2
      | box => exact r2
      | fz _ => exact r2
    refine h1 _ n2 _ G2 H2 (E3.setS (i := j) r2') ((t1.trans t2).sr fun q ho => ?_) (k s s' p1 p2)
    rcases own_setS E3.len ho with ho | ⟨e1, ds, e2⟩
    · rcases own_setS En.len ho with ho | ⟨e1, ds, e2⟩
      · exact .inl ho
      · exact .inr (hf1 q ds e1 e2)
    · refine .inr ?_
      have := hf2 q ds e1 e2
      cases y : H q with
      | none => rfl
      | some o => exact absurd this (t1.live (by rw [y]; exact fun w => nomatch w))⟩
end
end Dry

set_option Elab.async false
set_option linter.all false
set_option maxRecDepth 100000
set_option maxHeartbeats 4000000
namespace Dry
open PySem PySem.Spec PyProof.Rows L2 RZ
section
variable {K : PySem.W.Frag} {bx : Option Addr} {n n1 n2 m : Nat} {δ δ' δ1 δ2 : List Sl} {σ σ' σ1 σ2 : L2.St} {G H G' H' G1 H1 G2 H2 : Hp} {t u tb : TS} {te ta : TE} {tt : TT} {g : TG} {wi : TI} {E E' : AE} {P P1 P2 : PyData → Prop} {d : PyData} {b : Bool} {ds es : List PyData}
/-! ### a list of one's own is changed -/
theorem EnvD.mutS (En : EnvD K bx n δ σ G H) {i : Nat} {l : Addr} {ys : List V} (hi : δ[i]? = some (.own ds)) (hs : σ[i]? = some (some (.ref l))) (r : RpAll K G ys es) : EnvD K bx n (δ.set i (.own es)) σ G (upd H l (.lst ys)) := by
  obtain ⟨l', xs, e0, hb, gl, hl, _⟩ := En.ok i _ hi
  rw [hs] at e0
  cases e0
  refine ⟨fun a u e => ?_, by rw [List.length_set]; exact En.len, En.bf, fun a ha => ?_, fun j s h => ?_, fun j k ds' es' l'' h1 h2 h3 h4 => ?_⟩
  · rw [upd_ne (fun z => by rw [z, gl] at e; cases e)]
    exact En.ex a u e
  · obtain ⟨x, y, z, h0, h1⟩ := En.box a ha
    exact ⟨x, y, z, by rw [upd_ne (fun w => hb (by rw [← w]; exact ha))]; exact h0, h1⟩
  · rcases get_set h with ⟨rfl, rfl, hj⟩ | ⟨hj, h⟩
    · exact ⟨l, ys, hs, hb, gl, upd_same, r⟩
    · have k := En.ok j s h
      cases s with
      | un => trivial
      | val d => exact k
      | own ds' =>
        obtain ⟨l2, xs2, e2, hb2, g2, hl2, r2⟩ := k
        refine ⟨l2, xs2, e2, hb2, g2, ?_, r2⟩
        rw [upd_ne (fun z => hj (En.ds i j ds ds' l2 hi h (by rw [hs, z]) e2))]
        exact hl2
      | dic kvs =>
        obtain ⟨a2, e2, hb2, h2⟩ := k
        refine ⟨a2, e2, hb2, ?_⟩
        rw [upd_ne (fun z => by rw [z, hl] at h2; cases h2)]
        exact h2
      | box => exact k
      | fz _ => exact k
  · have f1 : ∃ fs, δ[j]? = some (.own fs) := by
      rcases get_set h1 with ⟨rfl, _, _⟩ | ⟨_, h⟩
      · exact ⟨ds, hi⟩
      · exact ⟨ds', h⟩
    have f2 : ∃ fs, δ[k]? = some (.own fs) := by
      rcases get_set h2 with ⟨rfl, _, _⟩ | ⟨_, h⟩
      · exact ⟨ds, hi⟩
      · exact ⟨es', h⟩
    obtain ⟨a1, f1⟩ := f1
    obtain ⟨a2, f2⟩ := f2
    exact En.ds j k a1 a2 l'' f1 f2 h3 h4
theorem own_mut {i : Nat} {q : Addr} (hi : δ[i]? = some (.own ds)) (h : OwnA (δ.set i (.own es)) σ q) : OwnA δ σ q := by
  obtain ⟨j, fs, h1, h2⟩ := h
  rcases get_set h1 with ⟨rfl, _, _⟩ | ⟨_, h⟩
  · exact ⟨i, ds, hi, h2⟩
  · exact ⟨j, fs, h, h2⟩
theorem sr_mut {i : Nat} {l : Addr} {o : HO} (t : Tr bx m G H G' H') (hi : δ[i]? = some (.own ds)) (hs : σ[i]? = some (some (.ref l))) : Sr bx δ σ G H (δ.set i (.own es)) σ G' (upd H' l o) :=
  ⟨t.gg, fun q u hb ho e => by
    rw [upd_ne (fun z => ho ⟨i, ds, hi, by rw [z]; exact hs⟩)]
    exact t.fr q u hb e, fun q h e _ => t.nw q h e, fun q h => .inl (own_mut hi h), fun q h => by
    by_cases z : q = l
    · rw [z, upd_same]
      exact fun w => nomatch w
    · rw [upd_ne z]
      exact t.live h⟩
theorem sj_append {i : Nat} (hi : δ[i]? = some (.own ds)) (h : XB K te δ n n1 P) (hl : ds.length < 100000) (k : ∀ d, P d → E.nx (δ.set i (.own (ds ++ [d]))) n1) :
    SJ K (tDrop (tBM K "list" rAppend (tVar i) (tCons te tNil))) δ n E := fun bx σ G H En D h1 h2 h3 h4 => by
  obtain ⟨l, xs, e0, hb, gl, hll, hr⟩ := En.ok i _ hi
  refine ⟨.ref l, e0, .inl ⟨rfl, xs, SqL.of hll⟩, h bx σ G H En _ fun v d G' H' t r p => ?_⟩
  have hl' := t.fr l _ hb hll
  refine ⟨l, xs, v, rfl, rfl, hl', sz_lt (by rw [dpa_len hr]; exact hl), h1 _ n1 σ G' _ ((En.step t).mutS hi e0 (dpa_append (dpa_up t.gg hr) (.cons r .nil))) (sr_mut t hi e0) (k d p)⟩
theorem sj_setL {i j : Nat} {z : Int} (hi : δ[i]? = some (.own ds)) (h : XB K te δ n n1 P) (hj : XD K ta δ (.int z)) (hz : ixN ds.length z = some j) (k : ∀ d, P d → E.nx (δ.set i (.own (ds.set j d))) n1) :
    SJ K (tAsg te (gSub (tVar i) ta rSetL)) δ n E := fun bx σ G H En D h1 h2 h3 h4 => by
  obtain ⟨l, xs, e0, hb, gl, hll, hr⟩ := En.ok i _ hi
  refine h bx σ G H En _ fun v d G' H' t r p => ⟨.ref l, e0, hj.run (En.step t) fun w G2 H2 t2 r2 => ?_⟩
  cases r2
  have hl' := t2.fr l _ hb (t.fr l _ hb hll)
  refine ⟨l, xs, z, j, rfl, rfl, hl', by rw [dpa_len hr]; exact hz, h1 _ n1 σ G2 _ (((En.step t).step t2).mutS hi e0 (dpa_set (dp_up t2.gg r) j (dpa_up (t.gg.trans t2.gg) hr))) (sr_mut (t.trans t2) hi e0) (k d p)⟩
/-- a list of one's own becomes a value -/
theorem sj_freeze {i : Nat} (hi : δ[i]? = some (.own ds)) (h : SJ K t (δ.set i (.val (.list ds))) n E) : SJ K t δ n E := fun bx σ G H En D h1 h2 h3 h4 => by
  obtain ⟨l, xs, e0, hb, gl, hll, hr⟩ := En.ok i _ hi
  have gg : Ex G (upd G l (.lst xs)) := Ex.new gl
  have own : ∀ q, OwnA (δ.set i (.val (.list ds))) σ q → OwnA δ σ q := fun q ⟨j, fs, a1, a2⟩ => by
    rcases get_set a1 with ⟨_, e, _⟩ | ⟨_, a⟩
    · cases e
    · exact ⟨j, fs, a, a2⟩
  have E2 : EnvD K bx n (δ.set i (.val (.list ds))) σ (upd G l (.lst xs)) H := by
    refine ⟨fun a u e => ?_, by rw [List.length_set]; exact En.len, fun a ha => ?_, En.box, fun j s hs => ?_, fun j k ds' es' l'' a1 a2 a3 a4 => ?_⟩
    · by_cases z : a = l
      · rw [z, upd_same] at e
        rw [z, ← e]
        exact hll
      · rw [upd_ne z] at e
        exact En.ex a u e
    · rw [upd_ne (fun w => hb (by rw [← w]; exact ha))]
      exact En.bf a ha
    · rcases get_set hs with ⟨rfl, rfl, hj⟩ | ⟨hj, hs⟩
      · exact ⟨.ref l, e0, .lst upd_same (dpa_up gg hr)⟩
      · have k := En.ok j s hs
        cases s with
        | un => trivial
        | val d =>
          obtain ⟨v, e, r⟩ := k
          exact ⟨v, e, dp_up gg r⟩
        | own ds' =>
          obtain ⟨l2, xs2, e2, hb2, g2, hl2, r2⟩ := k
          refine ⟨l2, xs2, e2, hb2, ?_, hl2, dpa_up gg r2⟩
          rw [upd_ne (fun z => hj (En.ds i j ds ds' l2 hi hs (by rw [e0, z]) e2))]
          exact g2
        | dic kvs => exact k
        | box => exact k
        | fz _ =>
          obtain ⟨a, xs, e, g, r⟩ := k
          exact ⟨a, xs, e, gg.sq g, dpa_up gg r⟩
    · have f1 : δ[j]? = some (.own ds') := by
        rcases get_set a1 with ⟨_, e, _⟩ | ⟨_, h⟩
        · cases e
        · exact h
      have f2 : δ[k]? = some (.own es') := by
        rcases get_set a2 with ⟨_, e, _⟩ | ⟨_, h⟩
        · cases e
        · exact h
      exact En.ds j k ds' es' l'' f1 f2 a3 a4
  have s : Sr bx δ σ G H (δ.set i (.val (.list ds))) σ (upd G l (.lst xs)) H := ⟨gg, fun _ _ _ _ e => e, fun q hq e ho => by
    rw [upd_ne (fun z => ho ⟨i, ds, hi, by rw [z]; exact e0⟩)]
    exact e, fun q hq => .inl (own q hq), fun _ h => h⟩
  exact h bx σ _ H E2 D (fun δ2 n2 σ2 G2 H2 E2 s2 => h1 δ2 n2 σ2 G2 H2 E2 (s.trans s2)) (fun d n2 v G2 H2 r => h2 d n2 v G2 H2 (s.rr r))
      (fun δ2 n2 σ2 G2 H2 E2 s2 => h3 δ2 n2 σ2 G2 H2 E2 (s.trans s2)) (fun δ2 n2 σ2 G2 H2 E2 s2 => h4 δ2 n2 σ2 G2 H2 E2 (s.trans s2))
/-! ### for -/
theorem sj_for {PI : List PyData → Prop} (hi : XI K wi δ n n1 PI) (inv : List PyData → Nat → List Sl → Nat → Prop) (h0 : ∀ items, PI items → inv items 0 δ n1)
    (hs : ∀ items, PI items → ∀ (i : Nat) d δ' m, items[i]? = some d → inv items i δ' m → ∃ δ'' js, XG K g d δ' δ'' js ∧ SJ K tb δ'' m ⟨inv items (i + 1), E.rt, E.nx, inv items (i + 1)⟩)
    (hd : ∀ items, PI items → ∀ δ' m, inv items items.length δ' m → E.nx δ' m) : SJ K (tFor wi g tb) δ n E := fun bx σ G H En D h1 h2 h3 h4 =>
  hi bx σ G H En _ fun J items G1 H1 t1 W hP => by
    refine ⟨fun i k σ' H' => k = items.length - i ∧ i ≤ items.length ∧ ∃ δ' m G', EnvD K bx m δ' σ' G' H' ∧ Sr bx δ σ G H δ' σ' G' H' ∧ Ex G1 G' ∧ inv items i δ' m,
      ⟨items.length, by simp, Nat.zero_le _, δ, n1, G1, En.step t1, t1.sr fun _ h => .inl h, Ex.refl _, h0 items hP⟩, ?_⟩
    rintro i k σ' H' ⟨rfl, hle, δ', m, G', E', s', eG, iv⟩
    obtain ⟨w1, w2, w3⟩ := W bx m δ' σ' G' H' E' eG
    by_cases hi' : i < items.length
    · refine .inr ⟨w1 i hi', fun σ2 H2 => i + 1 ≤ items.length ∧ ∃ δ' m G', EnvD K bx m δ' σ2 G' H2 ∧ Sr bx δ σ G H δ' σ2 G' H2 ∧ Ex G1 G' ∧ inv items (i + 1) δ' m,
        fun σ2 H2 h' => ⟨items.length - (i + 1), by omega, rfl, h'⟩, fun x H2 hy => ?_⟩
      obtain ⟨G2, t2, rx⟩ := w3 i _ x H2 (List.getElem?_eq_getElem hi') hy
      obtain ⟨δ'', js, hg, hb⟩ := hs items hP i _ δ' m (List.getElem?_eq_getElem hi') iv
      refine hg bx m σ' G2 H2 x (E'.step t2) rx _ fun σ3 E3 ho _ => ?_
      have s3 : Sr bx δ σ G H δ'' σ3 G2 H2 := s'.trans (t2.sr fun q z => .inl (ho q z))
      have e3 : Ex G1 G2 := eG.trans t2.gg
      have nxt : ∀ δ' n' σ' G' H', EnvD K bx n' δ' σ' G' H' → Sr bx δ'' σ3 G2 H2 δ' σ' G' H' → inv items (i + 1) δ' n' → i + 1 ≤ items.length ∧ ∃ δ' m G', EnvD K bx m δ' σ' G' H' ∧ Sr bx δ σ G H δ' σ' G' H' ∧ Ex G1 G' ∧ inv items (i + 1) δ' m :=
        fun δ' n' σ' G' H' e s z => ⟨hi', δ', n', G', e, s3.trans s, e3.trans s.gg, z⟩
      exact hb bx σ3 G2 H2 E3 _ nxt (fun d n' v G' H' r => h2 d n' v G' H' (s3.rr r)) (fun δ' n' σ' G' H' e s z => h1 δ' n' σ' G' H' e (s3.trans s) z) nxt
    · have e : i = items.length := by omega
      subst e
      exact .inl ⟨w2, h1 δ' m σ' G' H' E' s' (hd items hP δ' m iv)⟩
/-- over typed items, nothing drawn ahead -/
theorem sj_forT {α : Type} {xs : List α} {A : α → PyData} (hi : XID K wi δ (xs.map A)) (inv : Nat → List Sl → Nat → Prop) (h0 : inv 0 δ n)
    (hs : ∀ (i : Nat) x δ' m, xs[i]? = some x → inv i δ' m → ∃ δ'' js, XG K g (A x) δ' δ'' js ∧ SJ K tb δ'' m ⟨inv (i + 1), E.rt, E.nx, inv (i + 1)⟩)
    (hd : ∀ δ' m, inv xs.length δ' m → E.nx δ' m) : SJ K (tFor wi g tb) δ n E := by
  refine sj_for (hi n) (fun _ => inv) (fun _ _ => h0) (fun items e i d δ' m hd iv => ?_) (fun items e δ' m iv => hd δ' m (by rw [e, List.length_map] at iv; exact iv))
  subst e
  obtain ⟨x, hx, rfl⟩ := map_get hd
  exact hs i x δ' m hx iv
end

/-! ### defs -/
def inD (ds : List PyData) (k : Nat) : List Sl := ds.map .val ++ List.replicate (k - ds.length) .un
def Df (K : PySem.W.Frag) (mg : Str → Option Value) (x : Str) (st : Stmt) : Prop := ∃ f fd, FunD K x x (defArgs st) (defBody st) (defScope st) [] [] f fd ∧ mg x = some (.ref f)
/-- a def that keeps a promise, to be called by its name -/
structure Call1 (P : Program) (w : World) (K : PySem.W.Frag) (mg : Str → Option Value) (base : Heap) (CX : CXT) (k : Nat) (x : Str) (sp : Sp) : Prop where
  ex : ∃ f fd ps, FnOk P w K mg base CX k f fd ps sp ∧ mg x = some (.ref f) ∧ PySem.W.keepIn K (.ref f) = true ∧ Binds K fd ps []
section
variable {X : Cx} {CX : CXT} {k : Nat} {sp : Sp} {x : Str} {p pos : Pos} {e : Expr} {es : List Expr} {t : TA}
theorem pe_callC (C : Call1 X.prog X.w X.K X.mg X.base CX0 k x sp) (hr : Room k X.A) (hg : Gl X x) (ha : PA X (e :: es) t) (hdb : (x == ("__debug__" : Str)) = false := by decide)
    (he : starEach (e :: es) X.env = (false, eval e X.env) :: starEach es X.env := by rfl) (hpl : (backTo pos (starEach es X.env)).any (·.1) = false := by rfl) :
    PE X (.Call (.Name x p) (e :: es) [] pos) (tCall sp [] E0 t) := by
  obtain ⟨f, fd, ps, F, hm, hk, hb⟩ := C.ex
  exact pe_call F hr hg hm hk hb .nil pass0 ha hdb he hpl
theorem pe_callC0 (C : Call1 X.prog X.w X.K X.mg X.base CX0 k x sp) (hr : Room k X.A) (hg : Gl X x) (hdb : (x == ("__debug__" : Str)) = false := by decide) :
    PE X (.Call (.Name x p) [] [] pos) (tCall sp [] E0 tNil) := by
  obtain ⟨f, fd, ps, F, hm, hk, hb⟩ := C.ex
  exact pe_call0 F hr hg hm hk hb .nil pass0 hdb
end
section
variable {P : Program} {w : World} {K : PySem.W.Frag} {mg : Str → Option Value} {base : Heap} {x : Str} {st : Stmt} {N ps : List Str} {k : Nat} {G H : Hp} {vs : List V} {ds : List PyData}
theorem inD_own {c : Nat} {σ : L2.St} {q : Addr} : ¬ OwnA (inD ds c) σ q := fun ⟨i, es, h, _⟩ => by
  unfold inD at h
  rw [List.getElem?_append] at h
  split at h
  · rw [List.getElem?_map] at h
    cases e : ds[i]? <;> (rw [e] at h; cases h)
  · rw [List.getElem?_replicate] at h
    split at h <;> cases h
theorem inD_len {c : Nat} (h : ds.length ≤ c) : (inD ds c).length = c := by
  unfold inD
  rw [List.length_append, List.length_map, List.length_replicate]
  omega
theorem envD_start {N : List Str} (hx : Ex G H) (hr : RpAll K G vs ds) : EnvD K none 0 (inD ds N.length) (L2.start N vs) G H := by
  have hl := dpa_len hr
  refine ⟨hx, ?_, (fun _ z => nomatch z), (fun _ z => nomatch z), fun i s h => ?_, fun i j ds' es l h _ h3 _ => absurd ⟨i, ds', h, h3⟩ inD_own⟩
  · unfold inD L2.start
    rw [List.length_append, List.length_append, List.length_map, List.length_map, List.length_replicate, List.length_replicate, hl]
  · unfold inD at h
    unfold L2.start
    rw [List.getElem?_append] at h ⊢
    rw [List.length_map] at h ⊢
    rw [hl]
    split at h
    · rename_i hi
      rw [if_pos hi]
      rw [List.getElem?_map] at h ⊢
      cases e : ds[i]? with
      | none => rw [e] at h; cases h
      | some d =>
        rw [e] at h
        cases h
        obtain ⟨v, h1, h2⟩ := dpa_get hr e
        rw [h1]
        exact ⟨v, rfl, h2⟩
    · rw [List.getElem?_replicate] at h
      split at h
      · cases h
        trivial
      · cases h
/-- THE RULE for a def of values -/
theorem fun_ok {dom : List PyData → (PyData → Prop) → Prop} (F : Df K mg x st) (S : FnScope N ps (defScope st)) (hl : ∀ ds P, dom ds P → ds.length = ps.length)
    (hb : ∀ (kV doc pm : Value) (an : Option Addr) (cdv ct : Value) (us : List Value), us.length = ps.length → bindArgs (PySem.W.fnOf x x (defArgs st) (defBody st) (defScope st) .none kV doc pm an cdv ct) ⟨us, []⟩ = pure (ps.zip us))
    (body : ∀ (f : Addr) (cdv : Value) (A : Around) (outer : List Env) (s : Shared) (H : Hp) (E : XK), Room k (A.deeper (envOfC x (defScope st) s.heap.objs.size f cdv)) →
      ∃ t, PSs (cxOf CX0 P w K mg base N x (defScope st) f cdv A outer s H E).nox (defBody st) t ∧ ∀ ds P, dom ds P → SJ K t (inD ds N.length) 0 ⟨fun _ _ => P .none, fun d _ => P d, fun _ _ => False, fun _ _ => False⟩) :
    Call1 P w K mg base CX0 (k + 1) x (SpD K dom) := by
  obtain ⟨f, fd, F, hm⟩ := F
  refine ⟨f, fd, ps, F.ok S (fun vs H Q E h => ?_) (fun cdv A outer s H vs Q E hr h => ?_), hm, F.kp, F.bindsN hb⟩
  · obtain ⟨ds, P, G, _, r, hd, _⟩ := h
    rw [dpa_len r]
    exact hl ds P hd
  · obtain ⟨ds, P, G, hx, r, hd, q⟩ := h
    obtain ⟨t, ht, hj⟩ := body f cdv A outer s H E hr
    refine ⟨t, ht.nox, hj ds P hd none _ G H (envD_start hx r) _ (fun δ' n' σ' G' H' e sr p => ?_) (fun d n' v G' H' rr rv p => ?_) (fun _ _ _ _ _ _ _ z => z.elim) (fun _ _ _ _ _ _ _ z => z.elim)⟩
    · exact q _ _ G' H' ⟨sr.gg, e.ex, fun q o h => sr.fr q o (fun z => nomatch z) inD_own h, fun q h1 h2 => sr.nw q h1 h2 inD_own⟩ .non p
    · exact q v d G' H' ⟨rr.gg, rr.ex, fun q o h => rr.fr q o (fun z => nomatch z) inD_own h, fun q h1 h2 => rr.nw q h1 h2 inD_own⟩ rv p
/-! a def that draws -/
def inB (ds : List PyData) (k : Nat) : List Sl := .box :: inD ds (k - 1)
theorem inB_own {c : Nat} {σ : L2.St} {q : Addr} : ¬ OwnA (inB ds c) σ q := fun ⟨i, es, h, h2⟩ => by
  cases i with
  | zero => cases h
  | succ i => exact inD_own (σ := σ.tail) (q := q) ⟨i, es, h, by cases σ with
    | nil => cases h2
    | cons v r => exact h2⟩
theorem envB_start {N : List Str} {a : Addr} {n : Nat} (hN : N ≠ []) (hx : Ex G H) (ga : G a = none) (hb : BoxAt H a n) (hr : RpAll K G vs ds) : EnvD K (some a) n (inB ds N.length) (L2.start N (.ref a :: vs)) G H := by
  have hl := dpa_len hr
  have e0 : EnvD K none 0 (inD ds (N.length - 1)) (vs.map some ++ List.replicate (N.length - 1 - vs.length) none) G H := by
    cases N with
    | nil => exact absurd rfl hN
    | cons x N => exact envD_start (N := N) hx hr
  have es : L2.start N (.ref a :: vs) = some (.ref a) :: (vs.map some ++ List.replicate (N.length - 1 - vs.length) none) := by
    unfold L2.start
    rw [List.length_cons, List.map_cons, List.cons_append, Nat.sub_sub, Nat.add_comm 1]
  rw [es]
  refine ⟨hx, ?_, fun b z => by cases z; exact ga, fun b z => by cases z; exact hb, fun i s h => ?_, fun i j ds' es l h _ h3 _ => absurd ⟨i, ds', h, h3⟩ inB_own⟩
  · unfold inB
    rw [List.length_cons, List.length_cons, e0.len]
  · cases i with
    | zero =>
      cases h
      exact ⟨a, rfl, rfl⟩
    | succ i =>
      have k := e0.ok i s h
      cases s with
      | un => trivial
      | val d => exact k
      | own ds' =>
        obtain ⟨l, xs, e, _, k2⟩ := k
        refine ⟨l, xs, e, fun z => ?_, k2⟩
        cases z
        obtain ⟨_, k3, _⟩ := k2
        exact hb.ne (by
          have := inD_own (ds := ds) (c := N.length - 1) (σ := vs.map some ++ List.replicate (N.length - 1 - vs.length) none) (q := a) ⟨i, ds', h, e⟩
          exact this.elim)
      | dic kvs =>
        obtain ⟨l, e, _, h2⟩ := k
        refine ⟨l, e, fun z => ?_, h2⟩
        cases z
        obtain ⟨_, _, _, h3, _⟩ := hb
        rw [h3] at h2
        cases h2
      | box =>
        obtain ⟨b, z, _⟩ := k
        cases z
      | fz _ => exact k
theorem fun_okB {dom : List PyData → Nat → (PyData → Prop) → Prop} (F : Df K mg x st) (S : FnScope N ps (defScope st)) (hN : N ≠ []) (hl : ∀ ds c P, dom ds c P → ds.length + 1 = ps.length)
    (hb : ∀ (kV doc pm : Value) (an : Option Addr) (cdv ct : Value) (us : List Value), us.length = ps.length → bindArgs (PySem.W.fnOf x x (defArgs st) (defBody st) (defScope st) .none kV doc pm an cdv ct) ⟨us, []⟩ = pure (ps.zip us))
    (body : ∀ (f : Addr) (cdv : Value) (A : Around) (outer : List Env) (s : Shared) (H : Hp) (E : XK), Room k (A.deeper (envOfC x (defScope st) s.heap.objs.size f cdv)) →
      ∃ t, PSs (cxOf CX0 P w K mg base N x (defScope st) f cdv A outer s H E).nox (defBody st) t ∧ ∀ ds c P n, dom ds c P → n + c ≤ 2 ^ 50 → SJ K t (inB ds N.length) n ⟨fun _ m => m ≤ n + c ∧ P .none, fun d m => m ≤ n + c ∧ P d, fun _ _ => False, fun _ _ => False⟩) :
    Call1 P w K mg base CX0 (k + 1) x (SpB K dom) := by
  obtain ⟨f, fd, F, hm⟩ := F
  refine ⟨f, fd, ps, F.ok S (fun vs H Q E h => ?_) (fun cdv A outer s H vs Q E hr h => ?_), hm, F.kp, F.bindsN hb⟩
  · obtain ⟨a, ws, ds, c, P, n, G, rfl, _, _, _, _, r, hd, _⟩ := h
    rw [List.length_cons, dpa_len r]
    exact hl ds c P hd
  · obtain ⟨a, ws, ds, c, P, n, G, rfl, ga, hbx, hnc, hx, r, hd, q⟩ := h
    obtain ⟨t, ht, hj⟩ := body f cdv A outer s H E hr
    refine ⟨t, ht.nox, hj ds c P n hd hnc (some a) _ G H (envB_start hN hx ga hbx r) _ (fun δ' n' σ' G' H' e sr p => ?_) (fun d n' v G' H' rr rv p => ?_) (fun _ _ _ _ _ _ _ z => z.elim) (fun _ _ _ _ _ _ _ z => z.elim)⟩
    · exact q _ _ G' H' ⟨sr.gg, e.ex, fun q o hq h => sr.fr q o hq inB_own h, fun q h1 h2 => sr.nw q h1 h2 inB_own, fun b z => (e.box b z).mono p.1⟩ .non p.2
    · exact q v d G' H' ⟨rr.gg, rr.ex, fun q o hq h => rr.fr q o hq inB_own h, fun q h1 h2 => rr.nw q h1 h2 inB_own, fun b z => (rr.box b z).mono p.1⟩ rv p.2
end
end Dry

set_option Elab.async false
set_option linter.all false
set_option maxRecDepth 100000
set_option maxHeartbeats 4000000
namespace Dry
open PySem PySem.Spec PyProof.Rows L2 RZ
/-! ### the rules with the written part by its own letter (for comprehensions' blocks) -/
section
variable {X : Cx} {K : PySem.W.Frag}
theorem ixT (h : X.K = K := by rfl) : IxR X (rIxT K) := by subst h; exact ix_tup
theorem ixL (h : X.K = K := by rfl) : IxR X (rIxL K) := by subst h; exact ix_list
theorem slT (h : X.K = K := by rfl) : SlR X (rSlA K) := by subst h; exact sl_tupA
theorem slL (h : X.K = K := by rfl) : SlR X (rSlL K) := by subst h; exact sl_list
theorem opCatT (h : X.K = K := by rfl) : OpR X (binaryOp .Add) (rCatA K) := by subst h; exact op_catA
theorem opIn (h : X.K = K := by rfl) : OpR X (compareOp .In) (rIn K false) := by subst h; exact op_in_seq
theorem opNotIn (h : X.K = K := by rfl) : OpR X (compareOp .NotIn) (rIn K true) := by subst h; exact op_notIn_seq
theorem opEqD (hu : X.A.units + 64 < cLine) (h : X.K = K := by rfl) : OpR X (compareOp .Eq) (rEqD K) := by subst h; exact op_eqD hu
theorem opNeD (hu : X.A.units + 64 < cLine) (h : X.K = K := by rfl) : OpR X (compareOp .NotEq) (rNeD K) := by subst h; exact op_neD hu
theorem cLen (h : X.K = K := by rfl) : CallR X (.builtin "len") (fun xs H Q => ∃ p ys, xs = [V.ref p] ∧ (SqL K H p ys ∨ SqT K H p ys) ∧ Q (.int ys.length) H) := by subst h; exact call_len_seq
theorem cTuple (h : X.K = K := by rfl) : CallR X (.type "tuple") (fun xs H Q => ∃ p ys, xs = [V.ref p] ∧ ((SqL K H p ys ∧ ∀ l, H l = none → Q (.ref l) (upd H l (.tup ys))) ∨ (SqT K H p ys ∧ Q (.ref p) H))) := by subst h; exact call_tuple_of
theorem cList (h : X.K = K := by rfl) : CallR X (.type "list") (fun xs H Q => ∃ p ys, xs = [V.ref p] ∧ (SqL K H p ys ∨ SqT K H p ys) ∧ ∀ l, H l = none → Q (.ref l) (upd H l (.lst ys))) := by subst h; exact call_list_of
theorem cSum (hc : X.calm = true) (h : X.K = K := by rfl) : CallR X (.builtin "sum") (rSum K) := by subst h; exact cr_sum hc
theorem cAll (hc : X.calm = true) (h : X.K = K := by rfl) : CallR X (.builtin "all") (rAll K) := by subst h; exact cr_all hc
theorem cAny (hc : X.calm = true) (h : X.K = K := by rfl) : CallR X (.builtin "any") (rAny K) := by subst h; exact cr_any hc
theorem cIsi (h : X.K = K := by rfl) : CallR X (.builtin "isinstance") (rIsi K) := by subst h; exact call_isi
theorem cIsi2 (h : X.K = K := by rfl) : CallR X (.builtin "isinstance") (rIsiT K) := by subst h; exact call_isiT
variable {tg e e2 : Expr} {tl : TE} {ta : TA} {p pos tpos : Pos} {elts : List Expr} {kk : Nat}
theorem piList (hl : PE X e tl) (h : X.K = K := by rfl) : PI X tg e (iList K tl) := by subst h; exact pi_list hl
theorem piTup (hl : PE X e tl) (h : X.K = K := by rfl) : PI X tg e (iTup K tl) := by subst h; exact pi_tup hl
theorem piZip (hg : Gl X "zip") (hm : X.mg "zip" = none) (ha : PA X [e, e2] ta) (h : X.K = K := by rfl) (hs : starEach [e, e2] X.env = (false, eval e X.env) :: starEach [e2] X.env := by rfl) (hpl : (backTo pos (starEach [e2] X.env)).any (·.1) = false := by rfl) :
    PI X (.Tuple elts kk tpos) (.Call (.Name "zip" p) [e, e2] [] pos) (iZipA K ta) := by subst h; exact pi_zipA hg hm ha hs hpl
theorem piEnumL (hg : Gl X "enumerate") (hm : X.mg "enumerate" = none) (ha : PA X [e] ta) (h : X.K = K := by rfl) (hs : starEach [e] X.env = [(false, eval e X.env)] := by rfl) :
    PI X (.Tuple elts kk tpos) (.Call (.Name "enumerate" p) [e] [] pos) (iEnum K ta) := by subst h; exact pi_enum hg hm ha hs
theorem pgTup {es : List Expr} {k : Nat} {t : TGs} {n : Nat} (hc : X.calm = true) (hh : PGs X es t) (h : X.K = K := by rfl) (hn : (assignEach es X.env).length = n := by rfl) (hst : (assignEach es X.env).findIdx? (·.1) = none := by rfl) : PG X (.Tuple es k pos) (gTup K n t) := by subst h; exact pg_tup hc hh hn hst
/-- a def's name is stored, whether it is a local or a cell -/
theorem pgN {i : Nat} {x : Str} (hN : X.N.Nodup) (hi : X.N[i]? = some x) (hx : Loc X.env.scope x) (hf : X.fn x = true ∨ X.env.scope.names.lookup x = some .local) : PG X (.Name x pos) (gName i) := pg_name hN hi hx hf
end
end Dry

set_option Elab.async false
set_option linter.all false
set_option maxRecDepth 100000
set_option maxHeartbeats 4000000
namespace Dry
open PySem PySem.Spec PyProof.Rows L2 RZ
section
variable {prog : Program} {w : World} {A : Around} {E : Value → Shared → Prop} {s : Shared}
theorem sliceApplied_back {sl : Addr} {vl vu vs : Value} {n : Nat} {Q : Int × Int × Nat → Shared → Prop} (hs : s.heap.IsSliceOf sl vl vu vs) (pl : IsPart vl none) (pu : IsPart vu none) (pk : IsPart vs (some (-1)))
    (h : Q ((n : Int) - 1, -1, n) s) : wpAny (model prog w) A (Builtin.Slice.sliceApplied (.ref sl) (pure (n : Int))) Q E s := by
  obtain ⟨ob, h1, h2, h3⟩ := id hs
  unfold Builtin.Slice.sliceApplied
  unfold Builtin.Slice.sliceFields
  refine wpAny_bind (wpAny_bind (wpAny_field h1 h3 (x := vl) rfl (wpAny_bind (wpAny_field h1 h3 (x := vu) rfl (wpAny_bind (wpAny_field h1 h3 (x := vs) rfl (wpAny_pure ?_)))))))
  refine wpAny_bind (HT.slicePart_ pk ?_)
  show wpAny _ _ (if ((-1 : Int) == 0) = true then _ else _) _ _ s
  rw [if_neg (by decide)]
  refine wpAny_bind (HT.slicePart_ pl (wpAny_bind (HT.slicePart_ pu (wpAny_bind (wpAny_pure ?_)))))
  have e : Builtin.Slice.slicePlaces ((n : Int) - 1) (-1) (-1) = n := by
    unfold Builtin.Slice.slicePlaces
    rw [if_neg (by decide)]
    by_cases hn : n = 0
    · subst hn
      rfl
    · rw [if_pos (by omega)]
      rw [show ((n : Int) - 1 - -1 - 1) / - -1 = (n : Int) - 1 by rw [show (- -1 : Int) = 1 from rfl, Int.ediv_one]; omega]
      omega
  show wpAny _ _ (pure ((n : Int) - 1, (-1 : Int), Builtin.Slice.slicePlaces ((n : Int) - 1) (-1) (-1))) _ _ s
  rw [e]
  exact wpAny_pure h
theorem back_pick (xs : Array Value) : ((List.range xs.size).filterMap fun (k : Nat) => xs[(((xs.size : Int) - 1) + (k : Int) * -1).toNat]?).toArray = xs.toList.reverse.toArray := by
  congr 1
  obtain ⟨l⟩ := xs
  simp only [List.size_toArray, List.getElem?_toArray]
  have e : ∀ m, m ≤ l.length → ((List.range m).filterMap fun (k : Nat) => l[(((l.length : Int) - 1) + (k : Int) * -1).toNat]?) = l.reverse.take m := by
    intro m
    induction m with
    | zero => intro _; rfl
    | succ m ih =>
      intro hm
      rw [List.range_succ, List.filterMap_append, ih (by omega), List.take_succ]
      congr 1
      have e1 : (((l.length : Int) - 1) + (m : Int) * -1).toNat = l.length - 1 - m := by omega
      rw [List.filterMap_cons, e1, List.getElem?_reverse (by omega)]
      rw [List.getElem?_eq_getElem (by omega)]
      rfl
  rw [e l.length (Nat.le_refl _), List.take_of_length_le (by simp)]
theorem getItem_tuple_back {t sl : Addr} {items : Array Value} {vl vu vs : Value} {Q : Value → Shared → Prop} (ht : IsTup s.heap t items) (hs : s.heap.IsSliceOf sl vl vu vs) (pl : IsPart vl none) (pu : IsPart vu none) (pk : IsPart vs (some (-1)))
    (h : Q (.ref s.heap.objs.size) { s with heap := s.heap.push { cls := .type "tuple", data := .seq items.toList.reverse.toArray } }) (hz : items.size ≤ sizeLine) : wpAny (model prog w) A (getItem (.ref t) (.ref sl)) Q E s := by
  have hfit : sizeOk (.seq items.toList.reverse.toArray) := by
    show items.toList.reverse.toArray.size ≤ sizeLine
    rw [List.size_toArray, List.length_reverse, Array.length_toList]
    exact hz
  obtain ⟨ob, h1, h2, h3⟩ := id hs
  have hty : s.TypeIs (.ref sl) "slice" := ⟨ob, h1, h2⟩
  unfold getItem
  try with_reducible refine wpAny_holding ?_
  first | refine wpAny_bind (wpAny_pure ?_) | skip
  refine wpAny_bind (wpAny_sequenceKey ht.typeIs (by decide) ?_)
  refine wpAny_bind (wpAny_callSpecial?_slot (name := Str.ofString "__getitem__") ht.typeIs PyProof.Rows.slot_tuple_getitem
    (wpAny_call_entry PyProof.Rows.slot_tuple_getitem ht.typeIs entry_tuple_getitem ?_ (args_tuple_getitem _ _)))
  show wpAny _ _ (Builtin.Tuple.tupleItemsOf (.ref t) >>= _) _ _ s
  refine wpAny_bind (tupleItemsOf_ ht ?_)
  refine wpAny_bind (wpAny_typeOf hty ?_)
  rw [if_pos (by decide)]
  refine wpAny_bind (sliceApplied_back hs pl pu pk ?_)
  have hno : ¬ ((((items.size : Int) - 1) == 0 && (-1 : Int) == 1 && items.size == items.size) = true) := by
    intro q
    rw [Bool.and_eq_true, Bool.and_eq_true] at q
    exact absurd q.1.2 (by decide)
  show wpAny _ _ (if (((items.size : Int) - 1) == 0 && (-1 : Int) == 1 && items.size == items.size) = true then _ else _) _ _ s
  rw [if_neg hno, back_pick]
  first
    | exact wpAny_bind (m := Builtin.Tuple.tupleExact _) (wpAny_newObj_type (wpAny_pure ⟨_, rfl, wpAny_pure h⟩) hfit)
    | exact wpAny_bind (m := Builtin.Tuple.tupleExact _) (wpAny_newObj_type (wpAny_bind (wpAny_pure (wpAny_pure ⟨_, rfl, wpAny_pure h⟩))) hfit)
    | exact wpAny_bind (wpAny_bind (m := Builtin.Tuple.tupleExact _) (wpAny_newObj_type (wpAny_pure (wpAny_pure ⟨_, rfl, wpAny_pure h⟩)) hfit))
    | exact wpAny_bind (wpAny_bind (m := Builtin.Tuple.tupleExact _) (wpAny_newObj_type (wpAny_pure ⟨_, rfl, wpAny_pure h⟩) hfit))
end
def tRevT (K : PySem.W.Frag) (te : TE) : TE := fun σ H Q => te σ H fun x H1 => ∃ a xs, x = .ref a ∧ SqT K H1 a xs ∧ ∀ p, H1 p = none → Q (.ref p) (upd H1 p (.tup xs.reverse))
section
variable {X : Cx} {K : PySem.W.Frag}
theorem vals_rev {xs : List V} {us : List Value} (r : Vals xs us) : Vals xs.reverse us.reverse := by
  induction r with
  | nil => exact .nil
  | cons h t ih =>
    rw [List.reverse_cons, List.reverse_cons]
    exact ih.append (.cons h .nil)
theorem pe_revT {e : Expr} {te : TE} {k : Nat} {p1 p2 p3 pos : Pos} (he : PE X e te) (hK : X.K = K := by rfl) : PE X (.Subscript e (.Slice none none (some (.UnaryOp .USub (.Constant (.int 1) k p1) p2)) p3) pos) (tRevT K te) := by
  subst hK
  refine ⟨fun pins s σ H Q I h => ?_⟩
  refine Subscript_ (thn (he.run pins s σ H _ I h) fun v s1 ⟨x, H1, I1, r1, q1⟩ => ?_)
  obtain ⟨a, xs, ex, hx, q⟩ := q1
  subst ex
  cases r1
  have hst : PO X (some (.UnaryOp .USub (.Constant (.int 1) k p1) p2)) (tPart (tUn (rU fun i => .int (-i)) (tC (.int 1)))) := po_some (pe_un un_neg pe_int)
  refine wpAny_Slice (thn (po_none.run pins s1 σ H1 (fun o H2 => o = none ∧ H2 = H1) I1 ⟨rfl, rfl⟩) fun vl s2 ⟨l, H2, I2, pl, el, e2⟩ => ?_)
  subst el e2
  refine thn (po_none.run pins s2 σ H2 (fun o H3 => o = none ∧ H3 = H2) I2 ⟨rfl, rfl⟩) fun vu s3 ⟨u, H3, I3, pu, eu, e3⟩ => ?_
  subst eu e3
  refine thn (hst.run pins s3 σ H3 (fun o H4 => o = some (-1) ∧ H4 = H3) I3 ⟨1, rfl, -1, rfl, rfl, rfl⟩) fun vs s4 ⟨o, H4, I4, ps, eo, e4⟩ => ?_
  subst eo e4
  have I5 : Inv X pins σ H4 { s4 with heap := s4.heap.push { cls := .type "slice", data := .fields #[vl, vu, vs] } } := I4.kept (t' := s4.toks) fun b ob q => Heap.get?_push_of_some _ q
  obtain ⟨its, r, ht, hz⟩ := I5.tuple hx
  have hlen := r.length
  show wpAny (model X.prog X.w) X.A (subscriptTail e (.Slice none none (some (.UnaryOp .USub (.Constant (.int 1) k p1) p2)) p3) (.ref a) (.ref s4.heap.objs.size)) (EP X pins σ Q) X.xe { s4 with heap := s4.heap.push { cls := .type "slice", data := .fields #[vl, vu, vs] } }
  refine tail_any (ops := [.ref a, .ref s4.heap.objs.size]) ht.typeIs PyProof.Rows.slot_tuple_getitem.lookup ?_ (by with_unfolding_all rfl)
  refine getItem_tuple_back ht (Heap.IsSliceOf.new _ vl vu vs) pl pu ps ?_ (by rw [List.size_toArray]; omega)
  refine ⟨.ref _, _, I5.laid (t' := s4.toks) (o := .tup xs.reverse) (fun b ob q => Heap.get?_push_of_some _ q) (Nat.le_refl _) ?_, rfl, q _ (I5.hok.fresh (Nat.le_refl _))⟩
  exact ⟨by rw [List.length_reverse]; exact hz, _, vals_rev r, IsTup.new _ _⟩
theorem xd_revT {te : TE} {δ : List Sl} {ds : List PyData} (h : XD K te δ (.tuple ds)) : XD K (tRevT K te) δ (.tuple ds.reverse) := xd_mk fun bx n σ G H E Q q => h.run E fun v G1 H1 t1 r1 => by
  obtain ⟨a, xs, rfl, hs, hr⟩ := dp_tup_inv r1
  have E1 := E.step t1
  exact ⟨a, xs, rfl, E1.ex.t hs, fun p hp => q _ _ _ (t1.trans (E1.trUpd hp)) (.tup upd_same (dpa_up (Ex.new (E1.ex.free hp)) (dpa_rev hr)))⟩
theorem xd_neg {te : TE} {δ : List Sl} {i : Int} (h : XD K te δ (.int i)) : XD K (tUn (rU fun i => .int (-i)) te) δ (.int (-i)) := xd_mk fun bx n σ G H E Q q => h.run E fun v G1 H1 t1 r1 => by
  cases r1
  exact ⟨i, rfl, q _ G1 H1 t1 (.int _)⟩
theorem xd_cbN {rr : List V → Hp → VK → Prop} {ta : TA} {δ : List Sl} {ds es : List PyData} (h : XAD K ta δ ds) (hr : RCN K rr ds (fun z => z = es)) : XD K (tCB rr ta) δ (.list es) := XN.xd fun n => xn_cb (h n) fun z e => by rw [e]; exact hr
end
end Dry

set_option Elab.async false
set_option linter.all false
set_option maxRecDepth 100000
set_option maxHeartbeats 4000000
namespace Dry
open PySem PySem.Spec PyProof.Rows L2 RZ
/-! ### any(t), t a tuple of ints -/
def rAnyT (K : PySem.W.Frag) : List V → Hp → VK → Prop := fun vs H Q => ∃ (a : Addr) (ns : List Int), vs = [V.ref a] ∧ SqT K H a (ns.map V.int) ∧ Q (.bl (ns.any fun i => i != 0)) H
theorem ints_vals : ∀ {ns : List Int} {us : List Value}, Vals (ns.map V.int) us → ∀ (i : Nat) v, us[i]? = some v → ∃ k t, ns[i]? = some k ∧ v = .int k t
  | [], us, r, i, v, e => by cases r; simp at e
  | n :: ns, us, r, i, v, e => by
    cases r with
    | cons r1 r2 =>
      obtain ⟨t, rfl⟩ := r1
      cases i with
      | zero => exact ⟨n, t, rfl, by simpa using e.symm⟩
      | succ i => exact ints_vals r2 i v (by simpa using e)
theorem any_ix : ∀ ns : List Int, (List.range ns.length).any (fun i => ns.getD i 0 != 0) = ns.any fun i => i != 0
  | [] => rfl
  | b :: bs => by
    rw [List.length_cons, List.range_succ_eq_map, List.any_cons, List.any_map, List.any_cons, ← any_ix bs]
    rfl
section
variable {X : Cx} {K : PySem.W.Frag}
theorem cAnyT (hc : X.calm = true) (hK : X.K = K := by rfl) : CallR X (.builtin "any") (rAnyT K) := by
  subst hK
  intro pins s σ H vs us Q I r h
  obtain ⟨a, ns, rfl, hs, q⟩ := h
  obtain ⟨its, rv, ht, _⟩ := I.tuple hs
  rw [Vals.ref1 r]
  have hl := rv.length
  have hlt : a < s.heap.objs.size := by obtain ⟨_, e, _⟩ := ht; exact Heap.lt_size e
  refine call_any_walk (wpAny_pyIter_tuple (show s.heap.IsTuple a its.toArray from ht) ?_)
  refine ⟨s.heap.objs.size, _, _, _, _, _, fun i => ns.getD i 0 != 0, rfl, Walks.tuple (A := X.A.in1) (I.ok.hd hc) _ a (Nat.ne_of_lt hlt) its.toArray, ⟨⟨_, Heap.get?_push_size _ rfl, rfl, rfl⟩, (show s.heap.IsTuple a its.toArray from ht).at fun o e => Heap.get?_push_of_some _ e⟩, fun i v s' Q' E' hv hq => ?_, fun h' tk hk => ?_⟩
  · obtain ⟨k, t, h1, rfl⟩ := ints_vals rv i v (by simpa using hv)
    refine truthy_int ?_
    have e : ns.getD i 0 = k := by rw [List.getD_eq_getElem?_getD, h1]; rfl
    rw [← e]
    exact hq
  · refine ⟨.bl (ns.any fun i => i != 0), H, I.kept fun b o eo => hk b o (fun hmem => ?_) (Heap.get?_push_of_some _ eo), ?_, q⟩
    · rcases List.mem_cons.mp hmem with e1 | hmem
      · exact absurd (e1 ▸ Heap.lt_size eo) (Nat.lt_irrefl _)
      · cases hmem
    · show Value.bool _ = Value.bool _
      rw [← any_ix, List.size_toArray, ← hl, List.length_map]
theorem rc_anyT {ns : List Int} : RC K (rAnyT K) [.tuple (ns.map PyData.int)] (fun z => z = .bool (ns.any fun i => i != 0)) := rc_mk fun vs bx n δ σ G H E r Q q => by
  obtain ⟨v, rfl, r1⟩ := one_of r
  obtain ⟨a, xs, rfl, hs, hr⟩ := dp_tup_inv r1
  have e := dpa_ints hr
  subst e
  exact ⟨a, ns, rfl, E.ex.t hs, q _ G H E.tr (.bl _)⟩
end
/-! ### a loop over a list or a tuple, whichever it is -/
def iSeq (K : PySem.W.Frag) (tl : TE) : TI := fun σ H R => tl σ H fun x H1 => ∃ a, x = .ref a ∧ (((∃ xs, SqL K H1 a xs) ∧ R (Itl K a) H1) ∨ ((∃ xs, SqT K H1 a xs) ∧ R (Itt K a) H1))
section
variable {X : Cx} {K : PySem.W.Frag} {tg l : Expr} {tl : TE}
theorem piSeq (hl : PE X l tl) (hK : X.K = K := by rfl) : PI X tg l (iSeq K tl) := by
  subst hK
  refine ⟨fun pins s σ H R I h => ?_⟩
  refine thn (hl.run pins s σ H _ I h) fun v s1 ⟨x, H1, I1, r1, a, ea, q1⟩ => ?_
  -- the value once more, by a rule that hands it out as it is
  have again : ∀ (wi : TI) (_ : ∀ {l' : Expr} {t' : TE}, PE X l' t' → PI X tg l' wi → True), True := fun _ _ => trivial
  subst ea
  rcases q1 with ⟨⟨xs, hs⟩, q⟩ | ⟨⟨xs, hs⟩, q⟩
  · obtain ⟨its, rv, p, hz⟩ := I1.list hs
    cases r1
    refine wpAny_pyIter_list p.isList ?_
    refine ⟨s1.heap.objs.size, [s1.heap.objs.size], _, _, H1, rfl, I1.kept (t' := s1.toks) (fun b o e => Heap.get?_push_of_some _ e), turn_list a s1.heap.objs.size, ⟨_, Heap.get?_push_size _ rfl, rfl, rfl⟩, fun b hb => ?_, q⟩
    have e : b = s1.heap.objs.size := by simpa using hb
    subst e
    exact I1.fpOk (Nat.le_refl _) (I1.hok.fresh (Nat.le_refl _))
  · obtain ⟨its, rv, p, hz⟩ := I1.tuple hs
    cases r1
    refine wpAny_pyIter_tuple (show s1.heap.IsTuple a its.toArray from p) ?_
    refine ⟨s1.heap.objs.size, [s1.heap.objs.size], _, _, H1, rfl, I1.kept (t' := s1.toks) (fun b o e => Heap.get?_push_of_some _ e), turn_tuple a s1.heap.objs.size, ⟨_, Heap.get?_push_size _ rfl, rfl, rfl⟩, fun b hb => ?_, q⟩
    have e : b = s1.heap.objs.size := by simpa using hb
    subst e
    exact I1.fpOk (Nat.le_refl _) (I1.hok.fresh (Nat.le_refl _))
theorem xid_seqL {δ : List Sl} {ds : List PyData} (h : XD K tl δ (.list ds)) : XID K (iSeq K tl) δ ds := fun n bx σ G H E R q =>
  h.run E fun v G1 H1 t1 r1 => by
    obtain ⟨a, xs, rfl, hs, hr⟩ := dp_lst_inv r1
    exact ⟨a, rfl, .inl ⟨⟨xs, SqL.of (t1.ex _ _ hs)⟩, q _ _ G1 H1 t1 (walkD_list hs hr) rfl⟩⟩
theorem xid_seqT {δ : List Sl} {ds : List PyData} (h : XD K tl δ (.tuple ds)) : XID K (iSeq K tl) δ ds := fun n bx σ G H E R q =>
  h.run E fun v G1 H1 t1 r1 => by
    obtain ⟨a, xs, rfl, hs, hr⟩ := dp_tup_inv r1
    exact ⟨a, rfl, .inr ⟨⟨xs, t1.ex.t hs⟩, q _ _ G1 H1 t1 (walkD_tup hs hr) rfl⟩⟩
end
/-! ### enumerate(t), t a tuple -/
theorem meets_enumerate_newT (l : Addr) (items : Array Value) :
    Meets (Builtin.«enumerate.__new__» ⟨[.type "enumerate", .ref l], []⟩) (fun _ R s => s.heap.IsTuple l items ∧
      R (.ok (.ret (.ref (s.heap.push { cls := .type "tuple_iterator", data := .fields #[.ref l, .int 0 0] }).objs.size)))
        { s with heap := (s.heap.push { cls := .type "tuple_iterator", data := .fields #[.ref l, .int 0 0] }).push { cls := .type "enumerate", data := .fields #[.none, .bool false, .ref s.heap.objs.size, rawInt 0, .none, .none] } }) :=
  .of_wp fun prog w A R s h => by
    obtain ⟨hp, g, d, tk, os⟩ := s; obtain ⟨hl, h⟩ := h
    have hsub := sub_enumerate
    have q1 : ∀ {A' : Around} {E : Value → Shared → Prop} {Q : Value → Shared → Prop}, Q (.ref hp.objs.size) ⟨hp.push { cls := .type "tuple_iterator", data := .fields #[.ref l, .int 0 0] }, g, d, tk, os⟩ → wpAny (model prog w) A' (pyIter (.ref l)) Q E ⟨hp, g, d, tk, os⟩ :=
      fun q => wpAny_pyIter_tuple hl q
    wp_walk using q1
    refine wpAny_stack_any fun st => wpAny_pure ?_
    split
    · rename_i c _ _ _ _ _
      cases (c == Value.type "enumerate")
      · wp_walk using q1
        exact ⟨_, rfl, h⟩
      · wp_walk using q1
        exact ⟨_, rfl, h⟩
    · wp_walk using q1
      exact ⟨_, rfl, h⟩
section
variable {prog : Program} {w : World} {A : Around} {E : Value → Shared → Prop} {s : Shared}
theorem call_enumerate_tuple {l : Addr} {items : Array Value} {Q : Value → Shared → Prop} (hL : s.heap.IsTuple l items)
    (h : ∀ h', IsEnum h' (s.heap.objs.size + 1) s.heap.objs.size 0 .none → h'.IsTupleIter s.heap.objs.size l 0 →
      (∀ b o, s.heap.get? b = some o → h'.get? b = some o) → Q (.ref (s.heap.objs.size + 1)) { s with heap := h' }) :
    wpAny (model prog w) A (call (.type "enumerate") [.ref l]) Q E s := by
  refine callType_new F.called_enumerate (by decide) (F.typeCall_enumerate_1 _) (F.newCall_enumerate_1 _) (fun obj => F.args_object_init_2 obj _) F.entry_enumerate_new
    (meets_enumerate_newT l items) ⟨hL, ?_⟩
  have hz : (s.heap.push { cls := .type "tuple_iterator", data := .fields #[.ref l, .int 0 0] }).objs.size = s.heap.objs.size + 1 := Heap.size_push ..
  show _ ∧ _
  rw [hz]
  have he : IsEnum ((s.heap.push { cls := .type "tuple_iterator", data := .fields #[.ref l, .int 0 0] }).push
      { cls := .type "enumerate", data := .fields #[.none, .bool false, .ref s.heap.objs.size, rawInt 0, .none, .none] }) (s.heap.objs.size + 1) s.heap.objs.size 0 .none := by
    have := Heap.get?_push_size (s.heap.push { cls := .type "tuple_iterator", data := .fields #[.ref l, .int 0 0] })
      (o := { cls := .type "enumerate", data := .fields #[.none, .bool false, .ref s.heap.objs.size, rawInt 0, .none, .none] }) rfl
    rw [hz] at this; exact this
  exact ⟨⟨_, he, rfl⟩, h _ he ⟨_, Heap.get?_push_of_some _ (Heap.get?_push_size _ rfl), rfl, rfl⟩ fun b o x => Heap.get?_push_of_some _ (Heap.get?_push_of_some _ x)⟩
end
def IteT (K : PySem.W.Frag) (a : Addr) : It :=
  ⟨fun i H => ∃ (xs : List V) (x : V), SqT K H a xs ∧ xs[i]? = some x, fun i H v H' => ∃ T x, v = .ref T ∧ H T = none ∧ H' = upd H T (.tup [.int (i : Nat), x]) ∧ ∀ xs, SqT K H a xs → xs[i]? = some x, fun i H => ∃ xs : List V, SqT K H a xs ∧ xs.length = i⟩
theorem turn_enumT {P : Program} {w : World} {K : PySem.W.Frag} {elts : List Expr} {kk : Nat} {tpos : Pos} (a e it : Addr) :
    Turn P w K (.Tuple elts kk tpos) (IteT K a) [e, it] e (fun i h => (∃ old, IsEnum h e it ((i : Nat) : Int) old) ∧ h.IsTupleIter it a i ∧ e ≠ it) where
  mem := by simp
  obj := fun i h st b hb => by
    obtain ⟨⟨old, he⟩, ⟨o, ho, hc, hd⟩, _⟩ := st
    have e' : b = e ∨ b = it := by simpa using hb
    rcases e' with z | z
    · rw [z]; exact ⟨_, he, fun v q => nomatch q⟩
    · rw [z]; exact ⟨o, ho, fun v q => by rw [hd] at q; cases q⟩
  keep := fun i h h' st k => let ⟨⟨old, he⟩, hi, hne⟩ := st; ⟨⟨old, k e (by simp) _ he⟩, hi.at fun o q => k it (by simp) o q, hne⟩
  item := by
    intro X hP hw hK hc i pins s σ H E I hf st hg
    subst hP hw hK
    obtain ⟨⟨old, he⟩, hit, hne⟩ := st
    obtain ⟨xs, x, hq, hx⟩ := hg
    obtain ⟨its, rv, p, hz⟩ := I.tuple hq
    obtain ⟨u, hu, ru⟩ := rv.get hx
    have hel : e < s.heap.objs.size := Heap.lt_size he
    have hil : it < s.heap.objs.size := by obtain ⟨_, q, _⟩ := hit; exact Heap.lt_size q
    have hal : a < s.heap.objs.size := by obtain ⟨_, q, _⟩ := p; exact Heap.lt_size q
    have ai : a ≠ it := fun z => by
      obtain ⟨o1, q1, c1, _⟩ := p
      obtain ⟨o2, q2, c2, _⟩ := hit
      rw [z, q2] at q1
      cases q1
      rw [c1] at c2
      exact absurd c2 (by decide)
    have ae : e ≠ a := fun z => by
      obtain ⟨o1, q1, c1, _⟩ := p
      rw [← z] at q1
      have he' : s.heap.get? e = _ := he
      rw [q1] at he'
      cases he'
      have c2 : Value.type "enumerate" = Value.type "tuple" := c1
      exact absurd c2 (by decide)
    have D := Draws.tuple (prog := X.prog) (w := X.w) (A := X.A.in1) (I.ok.hd hc) it a ai its.toArray
    have hlt : i < its.toArray.size := by
      rw [List.size_toArray]
      exact (List.getElem?_eq_some_iff.mp hu).1
    refine wpAny_pyNext_enum_itemD D he ⟨hit, p⟩ hlt hne (by simp [hne, ae]) fun y h' tk hy ho hst hT hsz hk => ?_
    have ey : y = u := by
      have hy' : its[i]? = some y := by simpa using hy
      exact Option.some.inj (hy'.symm.trans hu)
    subst ey
    refine ⟨_, rfl, wpAny_letOwnedTupleGo_enum (s := { s with heap := h', toks := tk + 1 }) ho fun h'' he' sb => ?_⟩
    have hT2 : h''.get? s.heap.objs.size = some { cls := .type "tuple", data := .seq #[.int i tk, y] } := (sb.2 _ (Nat.ne_of_gt hel)).trans hT
    have new : ObjOk X.prog X.w (upd H s.heap.objs.size (.tup [.int (i : Nat), x])) h'' s.heap.objs.size (.tup [.int (i : Nat), x]) :=
      ⟨by show 2 ≤ sizeLine; decide, [.int i tk, y], .cons ⟨_, rfl⟩ (.cons ru .nil), ⟨_, hT2, rfl, _, rfl⟩⟩
    have I1 : Inv X pins σ (upd H s.heap.objs.size (.tup [.int (i : Nat), x])) { s with heap := h'', toks := tk + 1 } :=
      I.turnedNew (ch := [e, it]) (fun b ob hb q => (sb.2 b (fun z => hb (by simp [z]))).trans (hk b ob (fun z => hb (by simp [z])) (fun z => hb (by simp [z])) q)) hf (Nat.le_refl _) new
    refine ⟨.ref s.heap.objs.size, _, I1, rfl, ⟨_, x, rfl, I.hok.fresh (Nat.le_refl _), rfl, fun ys hy => by rw [I.tuple_inj hy hq]; exact hx⟩, ⟨⟨y, ?_⟩, hst.1.at fun o q => (sb.2 it (Ne.symm hne)).trans q, hne⟩, fun b hb => ?_⟩
    · have e1 : ((i + 1 : Nat) : Int) = (i : Int) + 1 := by omega
      rw [e1]; exact he'
    · have hb' : b < s.heap.objs.size := by
        have e' : b = e ∨ b = it := by simpa using hb
        rcases e' with z | z
        · rw [z]; exact hel
        · rw [z]; exact hil
      rw [upd_ne (Nat.ne_of_lt hb')]
      exact (hf b hb).1
  done := by
    intro X hP hw hK hc i pins s σ H E I hf st hg
    subst hP hw hK
    obtain ⟨⟨old, he⟩, hit, hne⟩ := st
    obtain ⟨xs, hq, hx⟩ := hg
    obtain ⟨its, rv, p, hz⟩ := I.tuple hq
    obtain ⟨f0, f1, f2, f3, f4, f5⟩ := hf it (by simp)
    have ai : a ≠ it := fun z => by
      obtain ⟨o1, q1, c1, _⟩ := p
      obtain ⟨o2, q2, c2, _⟩ := hit
      rw [z, q2] at q1
      cases q1
      rw [c1] at c2
      exact absurd c2 (by decide)
    have D := Draws.tuple (prog := X.prog) (w := X.w) (A := X.A.in1) (I.ok.hd hc) it a ai its.toArray
    have hl := rv.length
    have ei : its.toArray.size = i := by rw [List.size_toArray]; omega
    exact wpAny_pyNext_enum_endD D he (by rw [ei]; exact ⟨hit, p⟩) fun h' eb => ⟨rfl, I.turned (t' := s.toks) (fun b o hb q => eb b o hb q) f0 f1 f3 f4 f5⟩
  self := fun A i s Q E st h => let ⟨⟨_, he⟩, _⟩ := st; wpAny_pyIter_enum he h
def iEnumT (K : PySem.W.Frag) (ta : TA) : TI := fun σ H R => ta σ H fun vs H1 => ∃ a xs, vs = [.ref a] ∧ SqT K H1 a xs ∧ R (IteT K a) H1
section
variable {X : Cx} {K : PySem.W.Frag} {e : Expr} {ta : TA} {p pos tpos : Pos} {elts : List Expr} {kk : Nat}
theorem piEnumT (hg : Gl X "enumerate") (hm : X.mg "enumerate" = none) (ha : PA X [e] ta) (hK : X.K = K := by rfl) (hs : starEach [e] X.env = [(false, eval e X.env)] := by rfl) :
    PI X (.Tuple elts kk tpos) (.Call (.Name "enumerate" p) [e] [] pos) (iEnumT K ta) := by
  subst hK
  refine ⟨fun pins s σ H R I h => ?_⟩
  refine Call_ (ld_blt I hg hm boot_enumerate (PyProof.Rows.callWith_type1 (thn (ha.run pos pins s σ H _ I h) fun us s1 ⟨vs, H1, I1, r1, q1⟩ => ?_) hs rfl))
  obtain ⟨a, xs, ex, hq, q⟩ := q1
  subst ex
  cases r1 with
  | cons r rr =>
    cases rr
    cases r
    obtain ⟨its, rv, p', hz⟩ := I1.tuple hq
    refine call_enumerate_tuple (show s1.heap.IsTuple a its.toArray from p') fun h' he hit hk => wpAny_pyIter_enum he ?_
    have I2 : Inv X pins σ H1 { s1 with heap := h' } := I1.kept (t' := s1.toks) hk
    refine ⟨s1.heap.objs.size + 1, [s1.heap.objs.size + 1, s1.heap.objs.size], _, _, H1, rfl, I2, turn_enumT a (s1.heap.objs.size + 1) s1.heap.objs.size, ⟨⟨.none, he⟩, hit, Nat.succ_ne_self _⟩, fun b hb => ?_, q⟩
    have e' : b = s1.heap.objs.size + 1 ∨ b = s1.heap.objs.size := by simpa using hb
    rcases e' with z | z
    · rw [z]; exact I1.fpOk (Nat.le_succ _) (I1.hok.fresh (Nat.le_succ _))
    · rw [z]; exact I1.fpOk (Nat.le_refl _) (I1.hok.fresh (Nat.le_refl _))
theorem walkD_enumT {G0 : Hp} {a : Addr} {xs : List V} {ds : List PyData} (h : G0 a = some (.tup xs)) (r : RpAll K G0 xs ds) : WalkD K (IteT K a) (enD ds) G0 := fun bx n δ σ G H E e => by
  have l1 := dpa_len r
  have s1 : SqT K H a xs := E.ex.t (e _ _ h)
  rw [enD_len]
  refine ⟨fun i hi => ⟨xs, xs[i]'(by omega), s1, by simp [show i < xs.length by omega]⟩, ⟨xs, s1, by omega⟩, fun i d x H' hd y => ?_⟩
  obtain ⟨db, e1, rfl⟩ := enD_get hd
  obtain ⟨va, hva, ra⟩ := dpa_get r e1
  obtain ⟨T, x1, rfl, hT, rfl, f1⟩ := y
  have : x1 = va := Option.some.inj ((f1 xs s1).symm.trans hva)
  subst this
  exact pair_new E hT (.int _) (dp_up e ra)
theorem xid_enumT {δ : List Sl} {ds : List PyData} (h : XAD K ta δ [.tuple ds]) : XID K (iEnumT K ta) δ (enD ds) := fun n bx σ G H E R q =>
  h n bx σ G H E _ fun vs ds' G1 H1 t1 r1 p1 => by
    subst p1
    obtain ⟨v, rfl, rv⟩ := one_of r1
    obtain ⟨a, xs, rfl, hs, hr⟩ := dp_tup_inv rv
    exact ⟨a, xs, rfl, t1.ex.t hs, q _ _ G1 H1 t1 (walkD_enumT hs hr) rfl⟩
end
end Dry

set_option Elab.async false
set_option linter.all false
set_option maxRecDepth 100000
set_option maxHeartbeats 4000000
namespace Dry
open PySem PySem.Spec PyProof.Rows L2 RZ
/-! ### sum(xs, start), xs a list of tuples (or of lists), start an empty one -/
theorem args_sum_two (a b : Value) : argsOk "sum" ⟨[a, b], []⟩ := by unfold argsOk; kernel_rfl
def pre (f : Nat → List Value) (i : Nat) : List Value := ((List.range i).map f).flatten
theorem pre_succ (f : Nat → List Value) (i : Nat) : pre f (i + 1) = pre f i ++ f i := by
  unfold pre
  rw [List.range_succ, List.map_append, List.flatten_append]
  simp
/-- how two such things are put together -/
structure Glue (prog : Program) (w : World) (T : String) (Acc : Heap → Addr → List Value → Prop) : Prop where
  keep : ∀ (h h' : Heap) a vs, Acc h a vs → (∀ o, h.get? a = some o → h'.get? a = some o) → Acc h' a vs
  live : ∀ (h : Heap) a vs, Acc h a vs → ∃ o, h.get? a = some o
  ty : ∀ (s : Shared) a vs, Acc s.heap a vs → s.TypeIs (.ref a) T
  add : ∀ (A : Around) (E : Value → Shared → Prop) (s : Shared) t b vs ws (Q : Value → Shared → Prop), Acc s.heap t vs → Acc s.heap b ws → vs.length + ws.length ≤ sizeLine →
    (∀ r h', Acc h' r (vs ++ ws) → (r = t ∧ ws = [] ∨ r = b ∧ vs = [] ∨ s.heap.objs.size ≤ r) → s.heap.objs.size ≤ h'.objs.size → (∀ c o, s.heap.get? c = some o → h'.get? c = some o) → Q (.ref r) { s with heap := h' }) →
    wpAny (model prog w) A (binaryOp .Add (.ref t) (.ref b)) Q E s
section
variable {prog : Program} {w : World} {A : Around} {R : Result → Shared → Prop} {I : Addr} {fp wr : List Addr} {n : Nat} {P : Nat → Value → Prop} {St : Nat → Heap → Prop} {T : String} {Acc : Heap → Addr → List Value → Prop}
theorem sum2_loop (g : Glue prog w T Acc) (W : Walks prog w A.in1 I fp wr n P St) (S : Addr) (hSf : S ∉ fp) (s₂ : Shared) (f : Nat → List Value) (Old : Addr → List Value → Prop)
    (hSl : s₂.heap.objs.size = S + 1) (hlive : ∀ b ∈ S :: wr, b < s₂.heap.objs.size) (hval : ∀ i v, i < n → P i v → ∃ b, v = .ref b ∧ b ∉ S :: wr ∧ Acc s₂.heap b (f i) ∧ Old b (f i)) (hz : (pre f n).length ≤ sizeLine) :
    ∀ (k i : Nat) (h : Heap) (tk : Tok) (t : Addr) (c : Nat), n - i = k → i ≤ n → St i h → h.get? S = some { cls := .type "list", dict := none, data := .seq #[.ref t] c, slots := #[] } → 
    (∀ b o, b ∉ S :: wr → s₂.heap.get? b = some o → h.get? b = some o) → Acc h t (pre f i) → t ∉ S :: wr → (Old t (pre f i) ∨ s₂.heap.objs.size ≤ t) →
    (∀ h' tk' t', (∀ b o, b ∉ S :: wr → s₂.heap.get? b = some o → h'.get? b = some o) → Acc h' t' (pre f n) → (Old t' (pre f n) ∨ s₂.heap.objs.size ≤ t') → R (.ok (.ret (.ref t'))) { s₂ with heap := h', toks := tk' }) →
    codeAny (model prog w) A (.builtin "sum.loop" ⟨[.ref I, .ref S, rawInt 2, rawInt 0], []⟩) R { s₂ with heap := h, toks := tk } := by
  have hSw : S ∉ wr := fun z => hSf (W.sub _ z)
  intro k
  induction k with
  | zero =>
    intro i h tk t c hk hi hst hS hkept hacc htn hold hR
    have hin : i = n := by omega
    subst hin
    refine codeAny_builtin F.entry_sum_loop ?_
    rw [Around.under_plainId F.plain_sum_loop _]
    show wpAny _ A.in1 (seqItems? (.ref S) >>= _) _ _ _
    refine wpAny_bind (wpAny_seqItems hS rfl ?_)
    show wpAny _ A.in1 (tryCatch (pyNext (.ref I)) _ >>= _) _ _ _
    refine wpAny_bind (wpAny_tryCatch (W.done { s₂ with heap := h, toks := tk } _ _ hst fun h' tk' hk' => ?_))
    exact wpAny_pure (hR h' tk' t (fun b o hb e => hk' b o (fun z => hb (List.mem_cons_of_mem _ z)) (hkept b o hb e)) (g.keep _ _ _ _ hacc fun o e => hk' t o (fun z => htn (List.mem_cons_of_mem _ z)) e) hold)
  | succ k ih =>
    intro i h tk t c hk hi hst hS hkept hacc htn hold hR
    have hlt : i < n := by omega
    refine codeAny_builtin F.entry_sum_loop ?_
    rw [Around.under_plainId F.plain_sum_loop _]
    show wpAny _ A.in1 (seqItems? (.ref S) >>= _) _ _ _
    refine wpAny_bind (wpAny_seqItems hS rfl ?_)
    show wpAny _ A.in1 (tryCatch (pyNext (.ref I)) _ >>= _) _ _ _
    refine wpAny_bind (wpAny_tryCatch (W.item i { s₂ with heap := h, toks := tk } _ _ hlt hst fun v h1 tk1 hP hst1 hk1 => ?_))
    obtain ⟨b, rfl, hbn, hab, hob⟩ := hval i v hlt hP
    have hkept1 : ∀ b o, b ∉ S :: wr → s₂.heap.get? b = some o → h1.get? b = some o := fun b o hb e => hk1 b o (fun z => hb (List.mem_cons_of_mem _ z)) (hkept b o hb e)
    have hS1 := hk1 S _ hSw hS
    have hacc1 : Acc h1 t (pre f i) := g.keep _ _ _ _ hacc fun o e => hk1 t o (fun z => htn (List.mem_cons_of_mem _ z)) e
    have hb1 : Acc h1 b (f i) := g.keep _ _ _ _ hab fun o e => hkept1 b o hbn e
    have hlen : (pre f i).length + (f i).length ≤ sizeLine := by
      have e1 : (pre f (i + 1)).length ≤ (pre f n).length := by
        have : ∀ d, (pre f (i + 1)).length ≤ (pre f (i + 1 + d)).length := fun d => by
          induction d with
          | zero => exact Nat.le_refl _
          | succ d ihd =>
            have e2 := congrArg List.length (pre_succ f (i + 1 + d))
            rw [List.length_append] at e2
            show (pre f (i + 1)).length ≤ (pre f (i + 1 + d + 1)).length
            omega
        have := this (n - (i + 1))
        rwa [show i + 1 + (n - (i + 1)) = n by omega] at this
      rw [pre_succ, List.length_append] at e1
      omega
    have hS1sz : S < h1.objs.size := Heap.lt_size hS1
    show wpAny _ A.in1 ((holding [Value.ref b] (binaryOp .Add (.ref t) (.ref b))).attempt >>= _) _ _ _
    refine wpAny_bind (wpAny_attempt (wpAny_holding (g.add _ _ { s₂ with heap := h1, toks := tk1 } t b _ _ _ hacc1 hb1 hlen fun r h2 hr hro hsz2 hk2 => ?_)))
    show wpAny _ A.in1 (updateSeq S (fun _ => #[.ref r]) >>= _) _ _ _
    have hS2 := hk2 S _ hS1
    refine wpAny_bind (wpAny_updateSeq (s := { s₂ with heap := h2, toks := tk1 }) hS2 rfl ?_)
    have hS3 := Heap.get?_update_self (Obj.mapSeq fun _ => #[Value.ref r]) hS2 rfl
    refine wpAny_bind (wpAny_letGo ?_)
    refine wpAny_bind (wpAny_updateSeq hS3 rfl (wpAny_pure ⟨plainId_quiet F.plain_sum_loop _, ?_⟩))
    have hS4 := Heap.get?_update_self (Obj.mapSeq fun _ => #[Value.ref r]) hS3 rfl
    have far : ∀ q o, q ≠ S → h2.get? q = some o → ((h2.update S (Obj.mapSeq fun _ => #[Value.ref r])).update S (Obj.mapSeq fun _ => #[Value.ref r])).get? q = some o := fun q o hq e =>
      (Heap.get?_update_other _ _ (Ne.symm hq)).trans ((Heap.get?_update_other _ _ (Ne.symm hq)).trans e)
    have hnew : h1.objs.size ≤ r → s₂.heap.objs.size ≤ r := fun z => Nat.le_trans (by rw [hSl]; exact hS1sz) z
    have hrn : r ∉ S :: wr := by
      rcases hro with ⟨rfl, _⟩ | ⟨rfl, _⟩ | z
      · exact htn
      · exact hbn
      · intro hm
        have a1 : r < s₂.heap.objs.size := hlive r hm
        exact absurd (Nat.lt_of_lt_of_le a1 (hnew z)) (Nat.lt_irrefl _)
    refine ih (i + 1) _ tk1 r _ (by omega) hlt (W.frame _ _ _ hst1 fun q hq o e => far q o (fun z => hSf (by rw [← z]; exact hq)) (hk2 q o e)) hS4 (fun q o hq e => far q o (fun z => hq (by rw [z]; exact List.mem_cons_self)) (hk2 q o (hkept1 q o hq e))) ?_ hrn ?_ hR
    · rw [pre_succ]
      exact g.keep _ _ _ _ hr fun o e => far r o (fun z => hrn (by rw [z]; exact List.mem_cons_self)) e
    · rw [pre_succ]
      rcases hro with ⟨rfl, e⟩ | ⟨rfl, e⟩ | z
      · rw [e, List.append_nil]
        exact hold
      · rw [e, List.nil_append]
        exact .inl hob
      · exact .inr (hnew z)
theorem sub_seq_text {T : String} (h : T = "tuple" ∨ T = "list") : isSubtype (.type T) (.type "str") = pure false ∧ isSubtype (.type T) (.type "bytes") = pure false ∧ isSubtype (.type T) (.type "bytearray") = pure false := by
  rcases h with rfl | rfl
  · exact ⟨by rw [isSubtype_type]; kernel_rfl, by rw [isSubtype_type]; kernel_rfl, by rw [isSubtype_type]; kernel_rfl⟩
  · exact ⟨by rw [isSubtype_type]; kernel_rfl, by rw [isSubtype_type]; kernel_rfl, by rw [isSubtype_type]; kernel_rfl⟩
theorem call_sum_two {E : Value → Shared → Prop} {s : Shared} {l b0 : Addr} {items : Array Value} {Q : Value → Shared → Prop} (hT : T = "tuple" ∨ T = "list") (g : Glue prog w T Acc) (hh : A.handled = none) (hl : s.heap.IsList l items) (f : Nat → List Value) (Old : Addr → List Value → Prop)
    (hval : ∀ (i : Nat) v, items[i]? = some v → ∃ b, v = .ref b ∧ Acc s.heap b (f i) ∧ Old b (f i)) (h0 : Acc s.heap b0 []) (o0 : Old b0 []) (hz : (pre f items.size).length ≤ sizeLine)
    (h : ∀ h' tk' t', (∀ b o, s.heap.get? b = some o → h'.get? b = some o) → Acc h' t' (pre f items.size) → (Old t' (pre f items.size) ∨ s.heap.objs.size ≤ t') → Q (.ref t') { s with heap := h', toks := tk' }) :
    wpAny (model prog w) A (call (.builtin "sum") [.ref l, .ref b0]) Q E s := by
  have hlt : l < s.heap.objs.size := by obtain ⟨_, e, _⟩ := hl; exact Heap.lt_size e
  obtain ⟨s1, s2, s3⟩ := sub_seq_text hT
  refine call_function_tree F.kind_sum F.plain_sum F.entry_sum (args_sum_two _ _) ?_
  unfold Builtin.«sum»
  simp only [List.length_cons, List.length_nil]
  rw [if_neg (by decide)]
  refine wpAny_bind (wpAny_of_eq (show Builtin.Builtins.bindParams "sum" ["start"] 0 ⟨[.ref b0], []⟩ = pure [some (.ref b0)] from rfl) ?_)
  refine wpAny_bind (wpAny_pyIter_list hl ?_)
  have hp : ∀ a vs, Acc s.heap a vs → Acc (s.heap.push { cls := .type "list_iterator", data := .fields #[.ref l, .int 0 0] }) a vs := fun a vs q => g.keep _ _ _ _ q fun o e => Heap.get?_push_of_some _ e
  refine wpAny_bind (wpAny_pure ?_)
  simp only [List.forIn_cons, List.forIn_nil]
  have hty := g.ty { s with heap := s.heap.push { cls := .type "list_iterator", data := .fields #[.ref l, .int 0 0] } } b0 [] (hp _ _ h0)
  refine wpAny_bind (wpAny_bind (wpAny_bind (wpAny_isInstance (T := T) (b := false) hty s1 ?_)))
  simp only [Bool.false_eq_true, if_false]
  refine wpAny_pure (wpAny_bind (wpAny_bind (wpAny_isInstance (T := T) (b := false) hty s2 ?_)))
  simp only [Bool.false_eq_true, if_false]
  refine wpAny_pure (wpAny_bind (wpAny_bind (wpAny_isInstance (T := T) (b := false) hty s3 ?_)))
  simp only [Bool.false_eq_true, if_false]
  refine wpAny_pure (wpAny_pure ?_)
  refine wpAny_bind (wpAny_newObj_type ?_)
  have z1 : (s.heap.push { cls := .type "list_iterator", data := .fields #[.ref l, .int 0 0] }).objs.size = s.heap.objs.size + 1 := Heap.size_push ..
  have kp : ∀ b o, s.heap.get? b = some o → ((s.heap.push { cls := .type "list_iterator", data := .fields #[.ref l, .int 0 0] }).push { cls := .type "list", data := .seq #[.ref b0] }).get? b = some o := fun b o e => Heap.get?_push_of_some _ (Heap.get?_push_of_some _ e)
  have nl : ∀ b vs, Acc s.heap b vs → b ∉ (s.heap.push { cls := .type "list_iterator", data := .fields #[.ref l, .int 0 0] }).objs.size :: [s.heap.objs.size] := fun b vs q hm => by
    obtain ⟨o, e⟩ := g.live _ _ _ q
    have a1 := Heap.lt_size e
    rcases List.mem_cons.mp hm with z | z
    · rw [z, z1] at a1
      exact absurd a1 (Nat.not_lt.mpr (Nat.le_succ _))
    · rw [List.mem_singleton.mp z] at a1
      exact Nat.lt_irrefl _ a1
  refine wpAny_pure ⟨plainId_quiet F.plain_sum_loop _, ?_⟩
  refine sum2_loop g (Walks.list (prog := prog) (w := w) (A := A.in1) hh s.heap.objs.size l (Nat.ne_of_lt hlt) items) (s.heap.push { cls := .type "list_iterator", data := .fields #[.ref l, .int 0 0] }).objs.size ?_
    { s with heap := (s.heap.push { cls := .type "list_iterator", data := .fields #[.ref l, .int 0 0] }).push { cls := .type "list", data := .seq #[.ref b0] } } f Old (Heap.size_push ..) (fun b hb => ?_) (fun i v hi hv => ?_) hz items.size 0 _ _ b0 _ (by omega) (Nat.zero_le _) ?_ (Heap.get?_push_size _ rfl) (fun _ _ _ e => e) ?_ ?_ (.inl o0) (fun h' tk' t' hk ha ho => ?_)
  · intro hm
    rcases List.mem_cons.mp hm with z | z
    · rw [z1] at z
      exact absurd z (Nat.succ_ne_self _)
    · have e := List.mem_singleton.mp z
      rw [z1] at e
      rw [← e] at hlt
      exact absurd hlt (Nat.not_lt.mpr (Nat.le_succ _))
  · show b < ((s.heap.push { cls := .type "list_iterator", data := .fields #[.ref l, .int 0 0] }).push { cls := .type "list", data := .seq #[.ref b0] }).objs.size
    rw [Heap.size_push, z1]
    rcases List.mem_cons.mp hb with z | z
    · rw [z, z1]
      exact Nat.lt_succ_self _
    · rw [List.mem_singleton.mp z]
      exact Nat.lt_of_lt_of_le (Nat.lt_succ_self _) (Nat.le_succ _)
  · obtain ⟨b, e, a1, o1⟩ := hval i v hv
    exact ⟨b, e, nl b _ a1, g.keep _ _ _ _ a1 (kp b), o1⟩
  · exact ⟨⟨_, Heap.get?_push_of_some _ (Heap.get?_push_size _ rfl), rfl, rfl⟩, (hl.push _).push _⟩
  · exact g.keep _ _ _ _ h0 (kp b0)
  · exact nl b0 _ h0
  · refine h h' tk' t' (fun b o e => hk b o (fun hm => ?_) (kp b o e)) ha (ho.imp id fun z => ?_)
    · have a1 := Heap.lt_size e
      rcases List.mem_cons.mp hm with z | z
      · rw [z, z1] at a1
        exact absurd a1 (Nat.not_lt.mpr (Nat.le_succ _))
      · rw [List.mem_singleton.mp z] at a1
        exact Nat.lt_irrefl _ a1
    · refine Nat.le_trans ?_ z
      show s.heap.objs.size ≤ ((s.heap.push { cls := .type "list_iterator", data := .fields #[.ref l, .int 0 0] }).push { cls := .type "list", data := .seq #[.ref b0] }).objs.size
      rw [Heap.size_push, z1]
      exact Nat.le_trans (Nat.le_succ _) (Nat.le_succ _)
end
theorem glue_tup {prog : Program} {w : World} : Glue prog w "tuple" (fun h a vs => IsTup h a vs.toArray) where
  keep := fun h h' a vs ⟨o, e, c, d⟩ k => ⟨o, k o e, c, d⟩
  live := fun h a vs ⟨o, e, _⟩ => ⟨o, e⟩
  ty := fun s a vs q => q.typeIs
  add := fun A E s t b vs ws Q h1 h2 hz k => by
    by_cases hv : vs = []
    · subst hv
      exact cat_tup0 h1 h2 (k b s.heap h2 (.inr (.inl ⟨rfl, rfl⟩)) (Nat.le_refl _) fun _ _ e => e)
    · refine HT.cat_tup h1 h2 hv (fun hw => ?_) (fun hw => ?_) hz
      · subst hw
        exact k t s.heap (by rw [List.append_nil]; exact h1) (.inl ⟨rfl, rfl⟩) (Nat.le_refl _) fun _ _ e => e
      · exact k s.heap.objs.size _ (IsTup.new _ _) (.inr (.inr (Nat.le_refl _))) (by rw [Heap.size_push]; exact Nat.le_succ _) fun _ _ e => Heap.get?_push_of_some _ e
theorem glue_lst {prog : Program} {w : World} : Glue prog w "list" (fun h a vs => ∃ n, h.get? a = some { cls := .type "list", data := .seq vs.toArray n }) where
  keep := fun h h' a vs ⟨n, e⟩ k => ⟨n, k _ e⟩
  live := fun h a vs ⟨n, e⟩ => ⟨_, e⟩
  ty := fun s a vs ⟨n, e⟩ => ⟨_, e, rfl⟩
  add := fun A E s t b vs ws Q h1 h2 hz k => by
    obtain ⟨n1, e1⟩ := h1
    obtain ⟨n2, e2⟩ := h2
    refine PySem.P.add_list e1 e2 ?_ (by rw [List.size_toArray, List.size_toArray]; exact hz)
    have ea : vs.toArray ++ ws.toArray = (vs ++ ws).toArray := by simp
    rw [ea]
    exact k s.heap.objs.size _ ⟨0, Heap.get?_push_size _ rfl⟩ (.inr (.inr (Nat.le_refl _))) (by rw [Heap.size_push]; exact Nat.le_succ _) fun _ _ e => Heap.get?_push_of_some _ e
/-! as rules -/
def rSum2 (K : PySem.W.Frag) : List V → Hp → VK → Prop := fun vs H Q =>
  (∃ (a b : Addr) (xs : List V) (ys : List (List V)), vs = [V.ref a, V.ref b] ∧ SqL K H a xs ∧ SqT K H b [] ∧ ys.length = xs.length ∧ (∀ (i : Nat) (x : V) (y : List V), xs[i]? = some x → ys[i]? = some y → ∃ q : Addr, x = .ref q ∧ SqT K H q y) ∧ ys.flatten.length ≤ sizeLine ∧
    (∀ p : Addr, (p = b ∧ ys.flatten = []) ∨ (∃ i : Nat, xs[i]? = some (V.ref p) ∧ ys[i]? = some ys.flatten) → Q (.ref p) H) ∧ ∀ p, H p = none → Q (.ref p) (upd H p (.tup ys.flatten))) ∨
  (∃ (a b : Addr) (xs : List V) (ys : List (List V)), vs = [V.ref a, V.ref b] ∧ SqL K H a xs ∧ H b = some (.lst []) ∧ ys.length = xs.length ∧ (∀ (i : Nat) (x : V) (y : List V), xs[i]? = some x → ys[i]? = some y → ∃ q : Addr, x = .ref q ∧ H q = some (.lst y)) ∧ ys.flatten.length ≤ sizeLine ∧
    (∀ p : Addr, (p = b ∧ ys.flatten = []) ∨ (∃ i : Nat, xs[i]? = some (V.ref p) ∧ ys[i]? = some ys.flatten) → Q (.ref p) H) ∧ ∀ p, H p = none → Q (.ref p) (upd H p (.lst ys.flatten)))
theorem pre_vals {f : Nat → List Value} {ys : List (List V)} (h : ∀ (i : Nat) y, ys[i]? = some y → Vals y (f i)) : ∀ n, n ≤ ys.length → Vals (ys.take n).flatten (pre f n)
  | 0, _ => .nil
  | n + 1, hn => by
    rw [pre_succ, List.take_succ, List.flatten_append]
    have e := List.getElem?_eq_getElem (show n < ys.length from hn)
    rw [e]
    refine (pre_vals h n (by omega)).append ?_
    show Vals [ys[n]].flatten (f n)
    rw [List.flatten_cons, List.flatten_nil, List.append_nil]
    exact h n _ e
theorem choose_vals {α : Type} {n : Nat} {p : Nat → α → Prop} [Inhabited α] (h : ∀ i, i < n → ∃ x, p i x) : ∃ f : Nat → α, ∀ i, i < n → p i (f i) := by
  refine ⟨fun i => if hi : i < n then (h i hi).choose else default, fun i hi => ?_⟩
  show p i (if hi : i < n then (h i hi).choose else default)
  rw [dif_pos hi]
  exact (h i hi).choose_spec
section
variable {X : Cx} {K : PySem.W.Frag}
theorem cSum2 (hc : X.calm = true) (hK : X.K = K := by rfl) : CallR X (.builtin "sum") (rSum2 K) := by
  subst hK
  intro pins s σ H vs us Q I r h
  rcases h with ⟨a, b, xs, ys, rfl, ha, hb, hl, hi, hz, q1, q2⟩ | ⟨a, b, xs, ys, rfl, ha, hb, hl, hi, hz, q1, q2⟩
  · obtain ⟨u1, u2, rfl, r1, r2⟩ := vals2 r
    cases r1
    cases r2
    obtain ⟨its, rv, pl, _⟩ := I.list ha
    have l1 := rv.length
    have hch : ∀ i, i < ys.length → ∃ w : List Value, ∃ y q, ys[i]? = some y ∧ xs[i]? = some (.ref q) ∧ SqT X.K H q y ∧ Vals y w ∧ IsTup s.heap q w.toArray := fun i hi' => by
      have e1 := List.getElem?_eq_getElem hi'
      have e2 := List.getElem?_eq_getElem (show i < xs.length by omega)
      obtain ⟨q, e3, hq⟩ := hi i _ _ e2 e1
      obtain ⟨w, rw', pw, _⟩ := I.tuple hq
      exact ⟨w, _, q, e1, by rw [e2, e3], hq, rw', pw⟩
    obtain ⟨f, hf⟩ := choose_vals hch
    have hv : ∀ (i : Nat) y, ys[i]? = some y → Vals y (f i) := fun i y e => by
      obtain ⟨y', q, e1, _, _, h3, _⟩ := hf i (List.getElem?_eq_some_iff.mp e).1
      rw [e] at e1
      cases e1
      exact h3
    have hn : its.toArray.size = ys.length := by rw [List.size_toArray]; omega
    have hpre := pre_vals hv ys.length (Nat.le_refl _)
    rw [List.take_length] at hpre
    obtain ⟨itb, rb, pb, _⟩ := I.tuple hb
    cases rb
    refine call_sum_two (Acc := fun h a vs => IsTup h a vs.toArray) (.inl rfl) glue_tup (I.ok.hd hc) pl.isList f (fun q vs => (q = b ∧ vs = []) ∨ ∃ (i : Nat) (y : List V), xs[i]? = some (V.ref q) ∧ ys[i]? = some y ∧ Vals y vs) (fun i v e => ?_) pb (.inl ⟨rfl, rfl⟩) (by rw [hn, ← hpre.length]; exact hz) fun h' tk' t' hk ha' ho => ?_
    · have e' : its[i]? = some v := by simpa using e
      obtain ⟨y, q, e1, e2, h3, h4, h5⟩ := hf i (by have := (List.getElem?_eq_some_iff.mp e').1; omega)
      obtain ⟨u, hu, ru⟩ := rv.get e2
      rw [e'] at hu
      cases hu
      cases ru
      exact ⟨q, rfl, h5, .inr ⟨i, y, e2, e1, h4⟩⟩
    · rw [hn] at ha' ho
      rcases ho with (⟨e1, e2⟩ | ⟨i, y, hx, hy, ry⟩) | ho
      · rw [e2] at hpre
        refine ⟨.ref t', H, I.kept hk, rfl, q1 t' (.inl ⟨e1, ?_⟩)⟩
        have := hpre.length
        exact List.eq_nil_of_length_eq_zero this
      · have ey : y = ys.flatten := ry.inj hpre
        rw [ey] at hy
        exact ⟨.ref t', H, I.kept hk, rfl, q1 t' (.inr ⟨i, hx, hy⟩)⟩
      · exact ⟨.ref t', _, I.laid (o := .tup ys.flatten) hk ho ⟨hz, _, hpre, ha'⟩, rfl, q2 t' (I.hok.fresh ho)⟩
  · obtain ⟨u1, u2, rfl, r1, r2⟩ := vals2 r
    cases r1
    cases r2
    obtain ⟨its, rv, pl, _⟩ := I.list ha
    have l1 := rv.length
    have hch : ∀ i, i < ys.length → ∃ w : List Value, ∃ y q, ys[i]? = some y ∧ xs[i]? = some (.ref q) ∧ H q = some (.lst y) ∧ Vals y w ∧ ∃ n, s.heap.get? q = some { cls := .type "list", data := .seq w.toArray n } := fun i hi' => by
      have e1 := List.getElem?_eq_getElem hi'
      have e2 := List.getElem?_eq_getElem (show i < xs.length by omega)
      obtain ⟨q, e3, hq⟩ := hi i _ _ e2 e1
      obtain ⟨_, w, n, rw', pw⟩ := I.hok q _ hq
      exact ⟨w, _, q, e1, by rw [e2, e3], hq, rw', n, pw⟩
    obtain ⟨f, hf⟩ := choose_vals hch
    have hv : ∀ (i : Nat) y, ys[i]? = some y → Vals y (f i) := fun i y e => by
      obtain ⟨y', q, e1, _, _, h3, _⟩ := hf i (List.getElem?_eq_some_iff.mp e).1
      rw [e] at e1
      cases e1
      exact h3
    have hn : its.toArray.size = ys.length := by rw [List.size_toArray]; omega
    have hpre := pre_vals hv ys.length (Nat.le_refl _)
    rw [List.take_length] at hpre
    obtain ⟨_, itb, nb, rb, pb⟩ := I.hok b _ hb
    cases rb
    refine call_sum_two (Acc := fun h a vs => ∃ n, h.get? a = some { cls := .type "list", data := .seq vs.toArray n }) (.inr rfl) glue_lst (I.ok.hd hc) pl.isList f (fun q vs => (q = b ∧ vs = []) ∨ ∃ (i : Nat) (y : List V), xs[i]? = some (V.ref q) ∧ ys[i]? = some y ∧ Vals y vs) (fun i v e => ?_) ⟨nb, pb⟩ (.inl ⟨rfl, rfl⟩) (by rw [hn, ← hpre.length]; exact hz) fun h' tk' t' hk ha' ho => ?_
    · have e' : its[i]? = some v := by simpa using e
      obtain ⟨y, q, e1, e2, h3, h4, h5⟩ := hf i (by have := (List.getElem?_eq_some_iff.mp e').1; omega)
      obtain ⟨u, hu, ru⟩ := rv.get e2
      rw [e'] at hu
      cases hu
      cases ru
      exact ⟨q, rfl, h5, .inr ⟨i, y, e2, e1, h4⟩⟩
    · rw [hn] at ha' ho
      obtain ⟨na, ha'⟩ := ha'
      rcases ho with (⟨e1, e2⟩ | ⟨i, y, hx, hy, ry⟩) | ho
      · rw [e2] at hpre
        refine ⟨.ref t', H, I.kept hk, rfl, q1 t' (.inl ⟨e1, ?_⟩)⟩
        have := hpre.length
        exact List.eq_nil_of_length_eq_zero this
      · have ey : y = ys.flatten := ry.inj hpre
        rw [ey] at hy
        exact ⟨.ref t', H, I.kept hk, rfl, q1 t' (.inr ⟨i, hx, hy⟩)⟩
      · exact ⟨.ref t', _, I.laid (o := .lst ys.flatten) hk ho ⟨hz, _, na, hpre, ha'⟩, rfl, q2 t' (I.hok.fresh ho)⟩
/-- the items of tuples, of lists -/
theorem dpa_tups {G : Hp} : ∀ {dss : List (List PyData)} {xs : List V}, RpAll K G xs (dss.map PyData.tuple) → ∃ ys : List (List V), ys.length = xs.length ∧ (∀ (i : Nat) x y, xs[i]? = some x → ys[i]? = some y → ∃ q, x = .ref q ∧ G q = some (.tup y)) ∧ RpAll K G ys.flatten dss.flatten
  | [], _, .nil => ⟨[], rfl, fun i x y h => by simp at h, .nil⟩
  | ds :: dss, _, .cons r1 r2 => by
    obtain ⟨q, y, rfl, h1, h2⟩ := dp_tup_inv r1
    obtain ⟨ys, l, h3, h4⟩ := dpa_tups r2
    refine ⟨y :: ys, by simp [l], fun i x y' e1 e2 => ?_, by rw [List.flatten_cons, List.flatten_cons]; exact dpa_append h2 h4⟩
    cases i with
    | zero =>
      cases e1
      cases e2
      exact ⟨q, rfl, h1⟩
    | succ i => exact h3 i x y' (by simpa using e1) (by simpa using e2)
theorem dpa_lsts {G : Hp} : ∀ {dss : List (List PyData)} {xs : List V}, RpAll K G xs (dss.map PyData.list) → ∃ ys : List (List V), ys.length = xs.length ∧ (∀ (i : Nat) x y, xs[i]? = some x → ys[i]? = some y → ∃ q, x = .ref q ∧ G q = some (.lst y)) ∧ RpAll K G ys.flatten dss.flatten
  | [], _, .nil => ⟨[], rfl, fun i x y h => by simp at h, .nil⟩
  | ds :: dss, _, .cons r1 r2 => by
    obtain ⟨q, y, rfl, h1, h2⟩ := dp_lst_inv r1
    obtain ⟨ys, l, h3, h4⟩ := dpa_lsts r2
    refine ⟨y :: ys, by simp [l], fun i x y' e1 e2 => ?_, by rw [List.flatten_cons, List.flatten_cons]; exact dpa_append h2 h4⟩
    cases i with
    | zero =>
      cases e1
      cases e2
      exact ⟨q, rfl, h1⟩
    | succ i => exact h3 i x y' (by simpa using e1) (by simpa using e2)
theorem rc_sumT {dss : List (List PyData)} {ds : List PyData} (e : ds = dss.map PyData.tuple) (hz : dss.flatten.length ≤ 100000) : RC K (rSum2 K) [.list ds, .tuple []] (fun z => z = .tuple dss.flatten) := rc_mk fun vs bx n δ σ G H E r Q q => by
  subst e
  cases r with
  | cons ra rb =>
    obtain ⟨v, rfl, rv⟩ := one_of rb
    obtain ⟨a, xs, rfl, hs, hr⟩ := dp_lst_inv ra
    obtain ⟨b, zs, rfl, hs2, hr2⟩ := dp_tup_inv rv
    cases hr2
    obtain ⟨ys, l, h3, h4⟩ := dpa_tups hr
    refine .inl ⟨a, b, xs, ys, rfl, SqL.of (E.ex _ _ hs), E.ex.t hs2, l, fun i x y e1 e2 => ?_, sz_of (by rw [dpa_len h4]; exact hz), fun p hp => ?_, fun p hp => ?_⟩
    · obtain ⟨q, e, h5⟩ := h3 i x y e1 e2
      exact ⟨q, e, E.ex.t h5⟩
    · rcases hp with ⟨rfl, e1⟩ | ⟨i, e1, e2⟩
      · rw [e1] at h4
        exact q _ G H E.tr (.tup hs2 h4)
      · obtain ⟨q', e, h5⟩ := h3 i _ _ e1 e2
        cases e
        exact q _ G H E.tr (.tup h5 h4)
    · exact q _ _ _ (E.trUpd hp) (.tup upd_same (dpa_up (Ex.new (E.ex.free hp)) h4))
theorem rc_sumL {dss : List (List PyData)} {ds : List PyData} (e : ds = dss.map PyData.list) (hz : dss.flatten.length ≤ 100000) : RC K (rSum2 K) [.list ds, .list []] (fun z => z = .list dss.flatten) := rc_mk fun vs bx n δ σ G H E r Q q => by
  subst e
  cases r with
  | cons ra rb =>
    obtain ⟨v, rfl, rv⟩ := one_of rb
    obtain ⟨a, xs, rfl, hs, hr⟩ := dp_lst_inv ra
    obtain ⟨b, zs, rfl, hs2, hr2⟩ := dp_lst_inv rv
    cases hr2
    obtain ⟨ys, l, h3, h4⟩ := dpa_lsts hr
    refine .inr ⟨a, b, xs, ys, rfl, SqL.of (E.ex _ _ hs), E.ex _ _ hs2, l, fun i x y e1 e2 => ?_, sz_of (by rw [dpa_len h4]; exact hz), fun p hp => ?_, fun p hp => ?_⟩
    · obtain ⟨q, e, h5⟩ := h3 i x y e1 e2
      exact ⟨q, e, E.ex _ _ h5⟩
    · rcases hp with ⟨rfl, e1⟩ | ⟨i, e1, e2⟩
      · rw [e1] at h4
        exact q _ G H E.tr (.lst hs2 h4)
      · obtain ⟨q', e, h5⟩ := h3 i _ _ e1 e2
        cases e
        exact q _ G H E.tr (.lst h5 h4)
    · exact q _ _ _ (E.trUpd hp) (.lst upd_same (dpa_up (Ex.new (E.ex.free hp)) h4))
end
end Dry

set_option Elab.async false
set_option linter.all false
set_option maxRecDepth 100000
set_option maxHeartbeats 4000000
namespace Dry
open PySem PySem.Spec PyProof.Rows L2 RZ
open AutoSeq1 (wpAny_loadPart')
/-! ### t * k, t a tuple that is not empty, k from 0 -/
theorem tuple_mul_one (l : Addr) (items : Array Value) (n : Nat) (dd : Option Addr) (sl : Array (Option Value)) (u : Tok) :
    Meets (Builtin.«tuple.__mul__» ⟨[.ref l, .int 1 u], []⟩) (fun _ R s => s.heap.get? l = some { cls := .type "tuple", dict := dd, data := .seq items n, slots := sl } ∧ R (.ok (.ret (Value.ref l))) s) :=
  .of_wp fun prog w A R s h => by
    obtain ⟨hp, g, d, tk, os⟩ := s
    obtain ⟨hl, h⟩ := h
    have f1 := AutoSeq1.idx_int
    have c1 : (items.isEmpty || (1 : Int) == 1) = true := by rw [show ((1 : Int) == 1) = true from rfl, Bool.or_true]
    wp_walk using wpAny_loadPart' hl
    exact ⟨_, rfl, h⟩
theorem tuple_mul_zero (l : Addr) (items : Array Value) (n : Nat) (dd : Option Addr) (sl : Array (Option Value)) (u : Tok) (he : items.isEmpty = false) :
    Meets (Builtin.«tuple.__mul__» ⟨[.ref l, .int 0 u], []⟩) (fun _ R s => s.heap.get? l = some { cls := .type "tuple", dict := dd, data := .seq items n, slots := sl } ∧
      R (.ok (.ret (Value.ref s.heap.objs.size))) { s with heap := s.heap.push { cls := Value.type "tuple", data := Data.seq #[] } }) :=
  .of_wp fun prog w A R s h => by
    obtain ⟨hp, g, d, tk, os⟩ := s
    obtain ⟨hl, h⟩ := h
    have f1 := AutoSeq1.idx_int
    have c1 : (items.isEmpty || (0 : Int) == 1) = false := by rw [he]; rfl
    wp_walk using wpAny_loadPart' hl
    exact ⟨_, rfl, h⟩
def rRepK (K : PySem.W.Frag) : R2 := fun x y H Q => ∃ l k xs, x = .ref l ∧ y = .int k ∧ SqT K H l xs ∧ xs ≠ [] ∧ 0 ≤ k ∧ k ≤ 1000 ∧ xs.length ≤ 1000 ∧ (k = 1 → Q (.ref l) H) ∧ (k ≠ 1 → ∀ p, H p = none → Q (.ref p) (upd H p (.tup (List.replicate k.toNat xs).flatten)))
section
variable {X : Cx} {K : PySem.W.Frag}
theorem opRepT (hK : X.K = K := by rfl) : OpR X (binaryOp .Mult) (rRepK K) := by
  subst hK
  intro pins s σ H x y v u Q I rx ry h
  obtain ⟨l, k, xs, rfl, rfl, hT, hne, h0, h1, hz, q1, q2⟩ := h
  by_cases hk2 : 2 ≤ k
  · exact op_repT pins s σ H _ _ v u Q I rx ry ⟨l, k, xs, rfl, rfl, hT, hne, hk2, h1, hz, q2 (by omega)⟩
  · cases rx
    obtain ⟨t, rfl⟩ := ry
    obtain ⟨its, r, ⟨⟨cls, dd, data, sl⟩, ho, hc, n, hd⟩, hs⟩ := I.tuple hT
    simp only at hc hd
    subst hc hd
    have hle : its.length = xs.length := r.length.symm
    have hn : its ≠ [] := fun e => hne (by
      rw [e] at hle
      exact List.eq_nil_of_length_eq_zero hle.symm)
    have hi : its.toArray.isEmpty = false := by
      cases its with
      | nil => exact absurd rfl hn
      | cons a b => rfl
    have go : ∀ {S : PySem.Spec}, PySem.Meets (Builtin.«tuple.__mul__» ⟨[.ref l, .int k t], []⟩) S → S X.A (wants (EP X pins σ Q) X.xe) s → wpAny (model X.prog X.w) X.A (binaryOp .Mult (.ref l) (.int k t)) (EP X pins σ Q) X.xe s := fun {S} m hS =>
      wpAny_binaryOp_repeat_ref (T := "tuple") (U := "int") (by decide) ⟨_, ho, rfl⟩ (fun s' => typeIs_int s' k t) noFill_tuple_mul F.fills_int_mul F.slot_int_rmul repeat_tuple F.slot_int_index.lookup
        (call_meets F.slot_int_rmul (typeIs_int s k t) F.entry_int_rmul (F.args_int_rmul_2 _ _) (int_rmul_tuple k t l its.toArray n dd sl)
          ⟨ho, rfl, ⟨_, ho, rfl⟩, call_meets F.slot_tuple_mul ⟨_, ho, rfl⟩ F.entry_tuple_mul (F.args_tuple_mul_2 _ _) m hS⟩)
    by_cases hk1 : k = 1
    · subst hk1
      exact go (tuple_mul_one l its.toArray n dd sl t) ⟨ho, .ref l, H, I, rfl, q1 rfl⟩
    · have hk0 : k = 0 := by omega
      subst hk0
      refine go (tuple_mul_zero l its.toArray n dd sl t hi) ⟨ho, ?_⟩
      refine ⟨.ref s.heap.objs.size, _, I.laid (t' := s.toks) (o := .tup (List.replicate (0 : Int).toNat xs).flatten) (fun b ob q => Heap.get?_push_of_some _ q) (Nat.le_refl _) ?_, rfl, q2 hk1 _ (I.hok.fresh (Nat.le_refl _))⟩
      exact ⟨Nat.zero_le _, [], .nil, IsTup.new _ _⟩
theorem rd_repT {ds : List PyData} {k : Int} (h0 : 0 ≤ k) (h1 : k ≤ 1000) (hl : ds ≠ [] ∧ ds.length ≤ 1000) : RD K (rRepK K) (.tuple ds) (.int k) (fun z => z = .tuple (List.replicate k.toNat ds).flatten) := rd_mk fun x y bx n δ σ G H E r1 r2 Q q => by
  obtain ⟨a, xs, rfl, hs, hr⟩ := dp_tup_inv r1
  cases r2
  have l1 := dpa_len hr
  refine ⟨a, k, xs, rfl, rfl, E.ex.t hs, fun e => ?_, h0, h1, by omega, fun hk => ?_, fun hk p hp => ?_⟩
  · subst e
    cases hr
    exact hl.1 rfl
  · subst hk
    rw [show (List.replicate (1 : Int).toNat ds).flatten = ds by simp] at q
    exact q _ G H E.tr (.tup hs hr)
  · refine q _ _ _ (E.trUpd hp) (.tup upd_same (dpa_up (Ex.new (E.ex.free hp)) ?_))
    generalize k.toNat = j
    induction j with
    | zero => exact .nil
    | succ j ih =>
      rw [List.replicate_succ, List.replicate_succ, List.flatten_cons, List.flatten_cons]
      exact dpa_append hr ih
end
end Dry

set_option Elab.async false
set_option linter.all false
set_option maxRecDepth 100000
set_option maxHeartbeats 4000000
namespace Dry
open PySem PySem.Spec PyProof.Rows L2 RZ
abbrev rowD (r : List Int) : PyData := .tuple (r.map PyData.int)
abbrev rowsD (rs : List (List Int)) : PyData := .tuple (rs.map rowD)
structure Ky where
  p : Nat
  m : Nat
  cols : List (List Int)
abbrev keyD (k : Ky) : PyData := .tuple [.int k.p, .int k.m, rowsD k.cols]
abbrev keysD (ks : List Ky) : PyData := .tuple (ks.map keyD)
/-- the built-ins that are still the built-ins -/
structure Bi (mg : Str → Option Value) : Prop where
  len : mg "len" = none
  all : mg "all" = none
  any : mg "any" = none
  zip : mg "zip" = none
  range : mg "range" = none
  enumerate : mg "enumerate" = none
  tuple : mg "tuple" = none
  list : mg "list" = none
  int : mg "int" = none
  bool : mg "bool" = none
  str : mg "str" = none
  sum : mg "sum" = none
  min : mg "min" = none
  abs : mg "abs" = none
  sorted : mg "sorted" = none
  isinstance : mg "isinstance" = none
/-- the one global value -/
def PrOk (K : PySem.W.Frag) (mg : Str → Option Value) (a : Addr) : Prop := mg "PRIMES" = some (.ref a) ∧ ∀ H, SqT K H a [.int 2, .int 3, .int 5]
section
variable {K : PySem.W.Frag} {ta tb tc te : TE} {tt tu : TT} {tr : TA} {tl th : TO} {δ δ1 δ2 : List Sl} {n n1 n2 n3 m : Nat} {P P' P1 P2 : PyData → Prop} {d e f : PyData} {ds es : List PyData} {r : R2} {b c : Bool} {α β : Type} {xs : List α} {enc : β → PyData} {g : α → β} {rs : List β}
variable {mg : Str → Option Value}
/-- i in PRIMES -/
theorem xd_prim {a : Addr} {i : Int} (h : PrOk K mg a) (ht : XD K te δ (.int i)) : XD K (tOp (rIn K false) te (tC (.ref a))) δ (.bool ([2, 3, 5].contains i)) := xd_mk fun bx n σ G H E Q q => ht.run E fun v G1 H1 t1 r1 => by
  cases r1
  refine ⟨a, _, rfl, .inr (h.2 H1), rfl, rfl, ?_⟩
  have e : inV (.int i) [.int 2, .int 3, .int 5] = [2, 3, 5].contains i := by
    show inV (.int i) ([2, 3, 5].map V.int) = _
    unfold inV
    rw [List.any_map, List.contains_eq_any_beq]
    congr 1
    funext z
    exact Bool.eq_iff_iff.mpr ⟨fun h => by have h' : (z == i) = true := h; rw [beq_iff_eq] at h' ⊢; exact h'.symm, fun h => by show (z == i) = true; rw [beq_iff_eq] at h ⊢; exact h.symm⟩
  show Q (.bl (inV (.int i) [.int 2, .int 3, .int 5])) H1
  rw [e]
  exact q _ G1 H1 t1 (.bl _)
theorem rc_allE {t : α → Bool} : RC K (rAll K) [.list (xs.map fun x => .bool (t x))] (fun z => z = .bool (xs.all t)) := by
  have h := rc_all (K := K) (bs := xs.map t)
  rw [List.map_map, List.all_map] at h
  exact h
theorem rc_anyE {t : α → Bool} : RC K (rAny K) [.list (xs.map fun x => .bool (t x))] (fun z => z = .bool (xs.any t)) := by
  have h := rc_any (K := K) (bs := xs.map t)
  rw [List.map_map, List.any_map] at h
  exact h
theorem rc_sumE {t : α → Int} : RC K (rSum K) [.list (xs.map fun x => .int (t x))] (fun z => z = .int (xs.map t).sum) := by
  have h := rc_sum (K := K) (ns := xs.map t)
  rw [List.map_map] at h
  exact h
theorem rc_tupE : RC K (fun xs H Q => ∃ p ys, xs = [V.ref p] ∧ ((SqL K H p ys ∧ ∀ l, H l = none → Q (.ref l) (upd H l (.tup ys))) ∨ (SqT K H p ys ∧ Q (.ref p) H))) [.list (xs.map fun x => enc (g x))] (fun z => z = .tuple ((xs.map g).map enc)) := by
  have h := rc_tupleL (K := K) (ds := (xs.map g).map enc)
  rw [List.map_map] at h ⊢
  exact h
theorem rc_lenE : RC K (fun xs H Q => ∃ p ys, xs = [V.ref p] ∧ (SqL K H p ys ∨ SqT K H p ys) ∧ Q (.int ys.length) H) [.tuple (rs.map enc)] (fun z => z = .int rs.length) := by
  have h := rc_lenT (K := K) (ds := rs.map enc)
  rw [List.length_map] at h
  exact h
theorem rc_lenLE : RC K (fun xs H Q => ∃ p ys, xs = [V.ref p] ∧ (SqL K H p ys ∨ SqT K H p ys) ∧ Q (.int ys.length) H) [.list (rs.map enc)] (fun z => z = .int rs.length) := by
  have h := rc_lenL (K := K) (ds := rs.map enc)
  rw [List.length_map] at h
  exact h
theorem rd_catE {rs' : List β} (hl : rs.length + rs'.length ≤ 100000) : RD K (rCatA K) (.tuple (rs.map enc)) (.tuple (rs'.map enc)) (fun z => z = .tuple ((rs ++ rs').map enc)) := by
  rw [List.map_append]
  exact rd_catT (by rw [List.length_map, List.length_map]; exact hl)
theorem cutP_map (lo hi : Option Int) : cutP (rs.map enc) lo hi = (cutP rs lo hi).map enc := by
  unfold cutP
  rw [List.length_map, ← List.map_drop, ← List.map_take]
theorem xd_slE {lo hi : Option Int} (he : XD K te δ (.tuple (rs.map enc))) (hl : XO K tl δ lo) (hh : XO K th δ hi) : XD K (tSl (rSlA K) te tl th) δ (.tuple ((cutP rs lo hi).map enc)) := by
  rw [← cutP_map]
  exact xd_slT he hl hh
theorem atI_map {i : Int} {x : β} (h : atI rs i = some x) : atI (rs.map enc) i = some (enc x) := by
  unfold atI at h ⊢
  rw [List.length_map]
  cases e : ixN rs.length i with
  | none => rw [e] at h; cases h
  | some j =>
    rw [e] at h
    show (rs.map enc)[j]? = _
    rw [List.getElem?_map, show rs[j]? = some x from h]
    rfl
theorem ixN_nat {n j : Nat} (h : j < n) : ixN n (j : Int) = some j := by
  unfold ixN
  simp
  omega
theorem atI_nat {j : Nat} {x : β} (h : rs[j]? = some x) : atI rs (j : Int) = some x := by
  unfold atI
  rw [ixN_nat (List.getElem?_eq_some_iff.mp h).1]
  exact h
theorem rd_ixE {i : Int} {x : β} (h : atI rs i = some x) : RD K (rIxT K) (.tuple (rs.map enc)) (.int i) (fun z => z = enc x) := rd_ixT (atI_map h)
theorem rd_ixN {i : Nat} {x : β} (h : rs[i]? = some x) : RD K (rIxT K) (.tuple (rs.map enc)) (.int (i : Int)) (fun z => z = enc x) := rd_ixT (atI_map (atI_nat h))
theorem rd_ixLN {i : Nat} {x : β} (h : rs[i]? = some x) : RD K (rIxL K) (.list (rs.map enc)) (.int (i : Int)) (fun z => z = enc x) := rd_ixL (atI_map (atI_nat h))
theorem xd_revE {te : TE} (h : XD K te δ (.tuple (rs.map enc))) : XD K (tRevT K te) δ (.tuple (rs.reverse.map enc)) := by
  rw [List.map_reverse]
  exact xd_revT h
theorem xid_rangeN {k : Nat} {ta : TA} (h : XAD K ta δ [.int (k : Int)]) (h2 : k ≤ 100000) : XID K (iRng1 ta) δ ((List.range k).map fun i : Nat => PyData.int (i : Int)) := by
  have e := xid_range1 h (by omega) (by omega)
  unfold rgD at e
  rw [Int.toNat_natCast] at e
  simpa using e
theorem xd_andF (h1 : XD K ta δ (.bool false)) : XD K (tAndV ta tb) δ (.bool false) := xd_and (c := false) h1 fun z => nomatch z
theorem xd_andT (h1 : XD K ta δ (.bool true)) (h2 : XD K tb δ (.bool c)) : XD K (tAndV ta tb) δ (.bool c) := xd_and h1 fun _ => h2
theorem xd_orT (h1 : XD K ta δ (.bool true)) : XD K (tOrV ta tb) δ (.bool true) := xd_or (c := false) h1 fun z => nomatch z
theorem xd_orF (h1 : XD K ta δ (.bool false)) (h2 : XD K tb δ (.bool c)) : XD K (tOrV ta tb) δ (.bool c) := xd_or h1 fun _ => h2
end
end Dry
namespace Dry
open PySem PySem.Spec PyProof.Rows L2 RZ
section
variable {K : PySem.W.Frag} {ta tb tc te : TE} {tr : TA} {δ : List Sl} {α β : Type} {enc : β → PyData} {rs : List β}
theorem getD_some {i : Nat} (h : i < rs.length) (x0 : β) : rs[i]? = some (rs.getD i x0) := by
  rw [List.getD_eq_getElem?_getD, List.getElem?_eq_getElem h]
  rfl
theorem rd_ixG {i : Nat} (x0 : β) (h : i < rs.length) : RD K (rIxT K) (.tuple (rs.map enc)) (.int (i : Int)) (fun z => z = enc (rs.getD i x0)) := rd_ixN (getD_some h x0)
theorem rd_ixLG {i : Nat} (x0 : β) (h : i < rs.length) : RD K (rIxL K) (.list (rs.map enc)) (.int (i : Int)) (fun z => z = enc (rs.getD i x0)) := rd_ixLN (getD_some h x0)
theorem rd_ixC {z : Int} (i : Nat) (x0 : β) (e : z = (i : Int)) (h : i < rs.length) : RD K (rIxT K) (.tuple (rs.map enc)) (.int z) (fun z => z = enc (rs.getD i x0)) := by
  rw [e]
  exact rd_ixN (getD_some h x0)
theorem rd_ixLC {z : Int} (i : Nat) (x0 : β) (e : z = (i : Int)) (h : i < rs.length) : RD K (rIxL K) (.list (rs.map enc)) (.int z) (fun z => z = enc (rs.getD i x0)) := by
  rw [e]
  exact rd_ixLN (getD_some h x0)
theorem xd_tup1 (enc : β → PyData) {x : β} (h : XD K te δ (enc x)) : XD K (tTup (tCons te tNil)) δ (.tuple ([x].map enc)) := xd_tup (xad_cons h xad_nil) (by simp)
theorem rd_repE {x : β} {k : Nat} (h : k ≤ 1000) : RD K (rRepK K) (.tuple ([x].map enc)) (.int (k : Int)) (fun z => z = .tuple ((List.replicate k x).map enc)) := by
  have h' := rd_repT (K := K) (ds := [enc x]) (k := (k : Int)) (by omega) (by omega) ⟨by simp, by simp⟩
  have e : (List.replicate (k : Int).toNat [enc x]).flatten = (List.replicate k x).map enc := by
    rw [Int.toNat_natCast]
    induction k with
    | zero => rfl
    | succ k ih =>
      rw [List.replicate_succ, List.flatten_cons, List.replicate_succ, List.map_cons, ih (by omega) (rd_repT (by omega) (by omega) ⟨by simp, by simp⟩)]
      rfl
  rw [e] at h'
  exact h'
theorem cut_take (i : Nat) : cutP rs none (some (i : Int)) = rs.take i := by
  unfold cutP
  have e : HT.sIx rs.length 0 none = 0 := by simp [HT.sIx]
  have e2 : HT.sIx rs.length rs.length (some (i : Int)) = min i rs.length := by unfold HT.sIx; simp; omega
  rw [e, e2]
  simp
theorem cut_drop (i : Nat) : cutP rs (some (i : Int)) none = rs.drop i := by
  unfold cutP
  have e : HT.sIx rs.length 0 (some (i : Int)) = min i rs.length := by unfold HT.sIx; simp; omega
  have e2 : HT.sIx rs.length rs.length none = rs.length := by simp [HT.sIx]
  rw [e, e2]
  by_cases h : i ≤ rs.length
  · rw [Nat.min_eq_left h]
    exact List.take_of_length_le (by simp)
  · rw [Nat.min_eq_right (by omega), List.drop_eq_nil_of_le (by omega), List.drop_eq_nil_of_le (by omega)]
    simp
theorem cut_mid (i j : Nat) : cutP rs (some (i : Int)) (some (j : Int)) = (rs.take j).drop i := by
  unfold cutP
  have e : HT.sIx rs.length 0 (some (i : Int)) = min i rs.length := by unfold HT.sIx; simp; omega
  have e2 : HT.sIx rs.length rs.length (some (j : Int)) = min j rs.length := by unfold HT.sIx; simp; omega
  rw [e, e2, List.drop_take]
  by_cases h : i ≤ rs.length
  · rw [Nat.min_eq_left h]
    by_cases h2 : j ≤ rs.length
    · rw [Nat.min_eq_left h2]
    · rw [Nat.min_eq_right (by omega), List.take_of_length_le (by simp), List.take_of_length_le (by simp; omega)]
  · rw [show min i rs.length = rs.length by omega, List.drop_eq_nil_of_le (Nat.le_refl _), List.drop_eq_nil_of_le (show rs.length ≤ i by omega)]
    simp
end
end Dry
namespace Dry
open PySem PySem.Spec PyProof.Rows L2 RZ
/-! ### shaped data -/
def Sh (k : Nat) (d : PyData) : Prop := d.canLay0 = true ∧ d.depth ≤ k
theorem Sh.ok {k : Nat} {d : PyData} (h : Sh k d) (hk : k ≤ 64 := by decide) : SeqAt.shaped d = true := by
  show (PyData.canLay0 d && decide (PyData.depth d ≤ 64)) = true
  rw [h.1]
  have := h.2
  simp
  omega
theorem sh_all {k : Nat} : ∀ {ds : List PyData}, (∀ d ∈ ds, Sh k d) → PyData.canLayAll0 ds = true ∧ PyData.depthAll ds ≤ k
  | [], _ => by simp [PyData.canLayAll0, PyData.depthAll]
  | d :: ds, h => by
    obtain ⟨h1, h2⟩ := h d (by simp)
    obtain ⟨h3, h4⟩ := sh_all (ds := ds) fun x hx => h x (by simp [hx])
    simp only [PyData.canLayAll0, PyData.depthAll, h1, h3]
    exact ⟨rfl, by omega⟩
theorem sh_list {k : Nat} {ds : List PyData} (h : ∀ d ∈ ds, Sh k d) : Sh (k + 1) (.list ds) := by
  obtain ⟨h1, h2⟩ := sh_all h
  exact ⟨by simp only [PyData.canLay0]; exact h1, by simp only [PyData.depth]; omega⟩
theorem sh_tup {k : Nat} {ds : List PyData} (h : ∀ d ∈ ds, Sh k d) : Sh (k + 1) (.tuple ds) := by
  obtain ⟨h1, h2⟩ := sh_all h
  exact ⟨by simp only [PyData.canLay0]; exact h1, by simp only [PyData.depth]; omega⟩
theorem sh_int {i : Int} {k : Nat} : Sh k (.int i) := ⟨rfl, Nat.zero_le _⟩
theorem sh_map {α : Type} {f : α → PyData} {xs : List α} {k : Nat} (h : ∀ x ∈ xs, Sh k (f x)) : ∀ d ∈ xs.map f, Sh k d := by
  intro d hd
  obtain ⟨x, hx, rfl⟩ := List.mem_map.mp hd
  exact h x hx
theorem sh_row (r : List Int) : Sh 1 (rowD r) := sh_tup (sh_map fun _ _ => sh_int)
theorem sh_rows (r : List (List Int)) : Sh 2 (rowsD r) := sh_tup (sh_map fun _ _ => sh_row _)
theorem sh_nilL : Sh 1 (.list []) := sh_list (by simp)
theorem sh_nilT : Sh 1 (.tuple []) := sh_tup (by simp)
theorem eqv_nilL (ds : List PyData) : PyData.eqv (.list ds) (.list []) = ds.isEmpty := by
  cases ds <;> simp [PyData.eqv, PyData.eqvAll]
theorem eqv_nilT (ds : List PyData) : PyData.eqv (.tuple ds) (.tuple []) = ds.isEmpty := by
  cases ds <;> simp [PyData.eqv, PyData.eqvAll]
end Dry

set_option Elab.async false
set_option linter.all false
set_option maxRecDepth 100000
set_option maxHeartbeats 4000000
namespace Dry
open PySem PySem.Spec PyProof.Rows L2 RZ
/-! ### sorted() of a list of (int, row) pairs; min() of a list of pairs of ints -/
abbrev leadD (l : Nat × List Int) : PyData := .tuple [.int l.1, rowD l.2]
abbrev leadsD (L : List (Nat × List Int)) : PyData := .list (L.map leadD)
abbrev pairD (l : Int × Int) : PyData := .tuple [.int l.1, .int l.2]
open PySem.W (EachIs)
/-- the sorted pairs -/
def srt (bs : List (Nat × List Int)) : List (Nat × List Int) := bs.mergeSort (PySem.W.dataLe false leadD)
theorem srt_perm (bs : List (Nat × List Int)) : (srt bs).Perm bs := List.mergeSort_perm _ _
def rSortP (K : PySem.W.Frag) : List V → Hp → VK → Prop := fun vs H Q => ∃ (a : Addr) (xs : List V) (bs : List (Nat × List Int)) (W : V → Nat × List Int → Prop), vs = [V.ref a] ∧ SqL K H a xs ∧ EachIs W xs bs ∧ (∀ x b, W x b → Dp K H x (leadD b)) ∧ bs.length ≤ 100000 ∧
  ∀ (ys : List V) (p : Addr), EachIs W ys (srt bs) → H p = none → Q (.ref p) (upd H p (.lst ys))
def rMinP (K : PySem.W.Frag) : List V → Hp → VK → Prop := fun vs H Q => ∃ (a : Addr) (xs : List V) (bs : List (Int × Int)), vs = [V.ref a] ∧ SqL K H a xs ∧ DpAll K H xs (bs.map pairD) ∧ bs ≠ [] ∧ ∀ (i : Nat) x, xs[i]? = some x → Q x H
theorem each_vals {W : V → Nat × List Int → Prop} {h : V → Value → Prop} : ∀ {xs : List V} {vs : List Value} {bs : List (Nat × List Int)}, Vals xs vs → EachIs W xs bs → EachIs (fun v b => ∃ x, RelV x v ∧ W x b) vs bs
  | _, _, _, .nil, .nil => .nil
  | _, _, _, .cons r t, .cons w u => .cons ⟨_, r, w⟩ (each_vals (h := h) t u)
theorem each_back {W : V → Nat × List Int → Prop} : ∀ {vs : List Value} {bs : List (Nat × List Int)}, EachIs (fun v b => ∃ x, RelV x v ∧ W x b) vs bs → ∃ ys, Vals ys vs ∧ EachIs W ys bs
  | _, _, .nil => ⟨[], .nil, .nil⟩
  | _, _, .cons ⟨x, r, w⟩ t => by
    obtain ⟨ys, h1, h2⟩ := each_back t
    exact ⟨x :: ys, .cons r h1, .cons w h2⟩
theorem lead_alike (b b' : Nat × List Int) : PySem.W.alike (leadD b) (leadD b') = true := by
  simp only [PySem.W.alike, PySem.W.alikeAll, PySem.W.alike_ints, Bool.and_self]
theorem lead_depth (b : Nat × List Int) : (leadD b).depth ≤ 2 := by
  simp only [PyData.depth, PyData.depthAll, PySem.W.depth_ints]
  omega
section
variable {X : Cx} {K : PySem.W.Frag}
theorem cSortedP (hu : X.A.units + 64 < cLine) (hK : X.K = K := by rfl) : CallR X (.builtin "sorted") (rSortP K) := by
  subst hK
  intro pins s σ H vs us Q I r h
  obtain ⟨a, xs, bs, W, rfl, hs, hw, hd, hl, q⟩ := h
  obtain ⟨its, rv, hli, _⟩ := I.list hs
  rw [Vals.ref1 r]
  have e := each_vals (h := RelV) rv hw
  have hlen := rv.length
  have hwl := hw.length
  refine PySem.W.sorted_data (enc := leadD) hli.isList e (e.mono fun v b ⟨x, h1, h2⟩ => Dp.reads I _ x v (hd x b h2) h1) (PySem.W.AllAlike.of lead_alike) (PySem.W.Sortable.tuples fun b => ⟨_, _, rfl⟩) (sz_of hl) (fun b _ => by have := lead_depth b; omega) fun out ho eo => ?_
  obtain ⟨ys, ry, ey⟩ := each_back eo
  obtain ⟨ep, he'⟩ := PyProof.Rows.sortedAll_at s.heap its out.toArray
  have hl2 : ys.length ≤ sizeLine := by rw [ry.length, ho]; exact sz_of hl
  exact ⟨.ref _, upd H (s.heap.objs.size + 1) (.lst ys), I.laid (t' := s.toks) (fun _ _ => PyProof.Rows.sortedAll_old) (Nat.le_succ _) ⟨hl2, out, ep, ry, he'⟩, rfl, q ys _ ey (I.hok.fresh (Nat.le_succ _))⟩
theorem pairs_alike (bs : List (Int × Int)) : PySem.W.AlikeAll (bs.map pairD) := by
  constructor
  · intro x hx y hy
    obtain ⟨a, _, rfl⟩ := List.mem_map.mp hx
    obtain ⟨b, _, rfl⟩ := List.mem_map.mp hy
    simp only [PySem.W.alike, PySem.W.alikeAll, Bool.and_self]
  · intro x hx
    obtain ⟨a, _, rfl⟩ := List.mem_map.mp hx
    exact fun h => nomatch h
theorem pairs_depth : ∀ bs : List (Int × Int), PyData.depthAll (bs.map pairD) ≤ 1
  | [] => by simp [PyData.depthAll]
  | b :: bs => by
    have := pairs_depth bs
    simp only [List.map_cons, PyData.depthAll, PyData.depth]
    omega
theorem cMinP (hu : X.A.units + 64 < cLine) (hc : X.calm = true) (hK : X.K = K := by rfl) : CallR X (.builtin "min") (rMinP K) := by
  subst hK
  intro pins s σ H vs us Q I r h
  obtain ⟨a, xs, bs, rfl, hs, hd, hne, q⟩ := h
  obtain ⟨its, rv, hli, _⟩ := I.list hs
  rw [Vals.ref1 r]
  obtain ⟨as, ra⟩ := Dp.readsAll I _ xs its hd rv
  cases bs with
  | nil => exact absurd rfl hne
  | cons b bs =>
    have hdp := pairs_depth (b :: bs)
    refine PySem.W.min_list_data (x := pairD b) (xs := bs.map pairD) (I.ok.hd hc) hli.isList (by simpa using ra) (pairs_alike (b :: bs)) (by rw [← List.map_cons]; omega) fun i v h' tk cs hi hr hk => ?_
    have hi' : its[i]? = some v := by simpa using hi
    obtain ⟨x, hx, rx⟩ : ∃ x, xs[i]? = some x ∧ RelV x v := by
      have hl := rv.length
      have hlt := (List.getElem?_eq_some_iff.mp hi').1
      obtain ⟨u, hu, ru⟩ := rv.get (List.getElem?_eq_getElem (show i < xs.length by omega))
      rw [hi'] at hu
      cases hu
      exact ⟨_, List.getElem?_eq_getElem (by omega), ru⟩
    exact ⟨x, H, I.kept hk, rx, q i x hx⟩
theorem dpa_each {G : Hp} : ∀ {xs : List V} {bs : List (Nat × List Int)}, RpAll K G xs (bs.map leadD) → EachIs (fun x b => Rp K G x (leadD b)) xs bs
  | [], [], _ => .nil
  | [], _ :: _, h => nomatch h
  | _ :: _, [], h => nomatch h
  | x :: xs, b :: bs, h => by
    cases h with
    | cons h1 h2 => exact .cons h1 (dpa_each h2)
theorem each_dpa {G : Hp} : ∀ {xs : List V} {bs : List (Nat × List Int)}, EachIs (fun x b => Rp K G x (leadD b)) xs bs → RpAll K G xs (bs.map leadD)
  | _, _, .nil => .nil
  | _, _, .cons h1 h2 => .cons h1 (each_dpa h2)
theorem rc_sortedP {bs : List (Nat × List Int)} (hl : bs.length ≤ 100000) : RC K (rSortP K) [leadsD bs] (fun z => z = leadsD (srt bs)) := rc_mk fun vs bx n δ σ G H E r Q q => by
  obtain ⟨v, rfl, r1⟩ := one_of r
  obtain ⟨a, xs, rfl, hs, hr⟩ := dp_lst_inv r1
  refine ⟨a, xs, bs, fun x b => Rp K G x (leadD b), rfl, SqL.of (E.ex _ _ hs), dpa_each hr, fun x b h => rp_dp (dp_up E.ex h), hl, fun ys p h1 h3 => ?_⟩
  have gp := E.ex.free h3
  exact q _ (upd G p (.lst ys)) _ (E.trUpd h3) (.lst upd_same (dpa_up (Ex.new gp) (each_dpa h1)))
theorem rc_minP {bs : List (Int × Int)} (hne : bs ≠ []) : RC K (rMinP K) [.list (bs.map pairD)] (fun z => ∃ b ∈ bs, z = pairD b) := fun vs bx n δ σ G H E r Q q => by
  obtain ⟨v, rfl, r1⟩ := one_of r
  obtain ⟨a, xs, rfl, hs, hr⟩ := dp_lst_inv r1
  refine ⟨a, xs, bs, rfl, SqL.of (E.ex _ _ hs), (rpa_dpa (dpa_up E.ex hr)), hne, fun i x hx => ?_⟩
  obtain ⟨d, hd, rd⟩ := dpa_get' hr hx
  rw [List.getElem?_map] at hd
  cases e : bs[i]? with
  | none => rw [e] at hd; cases hd
  | some b =>
    rw [e] at hd
    cases hd
    exact q _ _ G H E.tr rd ⟨b, List.mem_of_getElem? e, rfl⟩
end
end Dry

set_option Elab.async false
set_option linter.all false
set_option maxRecDepth 100000
set_option maxHeartbeats 4000000
namespace Dry
open PySem PySem.Spec PyProof.Rows L2 RZ
/-! ### an own exception, raised with no argument; caught -/
structure NpOk (K : PySem.W.Frag) (mg : Str → Option Value) (C : Addr) : Prop where
  g : mg "NoPaper" = some (.ref C)
  x : PySem.W.excIn K C He.veBase "ValueError.__new__" = true
  k : PySem.W.keepIn K (.ref C) = true
  b : PySem.W.subIn K (.ref C) (.type "BaseException") = some true
  t : PySem.W.typeIn K (.ref C) = some (.type "type")
  e : PySem.W.exmOne K (.ref C) (.ref C) = some true
section
variable {X : Cx} {C : Addr} {bmB : List Value} {B newId initId : String}
theorem pmk_own00 {x : Str} {p pos : Pos} (F : ExcBaseFacts B newId initId bmB) (q : PySem.W.excIn X.K C bmB newId = true) (gC : X.mg x = some (.ref C)) (kC : PySem.W.keepIn X.K (.ref C) = true) (r : Raises X (.ref C)) (hg : Gl X x)
    (hdb : (x == ("__debug__" : Str)) = false := by decide) : PMk X (.Call (.Name x p) [] [] pos) (fun _ H Q => Q (.ref C) none H) := by
  intro pins s σ H Q I h
  refine wpAny_Call_Name_kw (ld_glob I hg gC ?_ hdb)
  refine PySem.W.callWith_K0 I.kIn kC ?_
  show wpAny _ _ (call (.ref C) []) _ _ _
  obtain ⟨bm, N, nm, qn, bs, hdct, sn, sub, ab, col, dd, k0, k1, k2, k3, k5, mN, hC, hN, hni, T⟩ := exc_obj I.kIn q
  refine wpAny_call_exc_subT F T hC hN hni (fun h' e hm => ?_) (Nat.zero_le _)
  exact mk_of I hm r h (I.hok.gone hm.new)
/-- a call of a local that holds the def at f; what it lets out is told -/
def tCallLS (i : Nat) (f : Addr) (sp : Sp) (E : L2.St → XK) (t : TA) : TE := fun σ H Q => σ[i]? = some (some (.ref f)) ∧ t σ H fun vs H1 => sp vs H1 Q (E σ)
variable {CX : CXT} {k i : Nat} {f : Addr} {fd : FuncData} {ps : List Str} {sp : Sp} {E : L2.St → XK} {x : Str} {p pos : Pos} {e : Expr} {es : List Expr} {t : TA}
theorem pe_callLS (F : FnOk X.prog X.w X.K X.mg X.base CX k f fd ps sp) (hr : Room k X.A) (hN : X.N[i]? = some x) (hv : Vis X.env.scope x) (hk : PySem.W.keepIn X.K (.ref f) = true) (hb : Binds X.K fd ps []) (hx : ∀ σ, PassesAt CX X σ (E σ)) (ha : PA X (e :: es) t)
    (hdb : (x == ("__debug__" : Str)) = false := by decide) (hcd : (x == ("__classdict__" : Str)) = false := by decide)
    (he : starEach (e :: es) X.env = (false, eval e X.env) :: starEach es X.env := by rfl) (hpl : (backTo pos (starEach es X.env)).any (·.1) = false := by rfl) : PE X (.Call (.Name x p) (e :: es) [] pos) (tCallLS i f sp E t) := by
  refine ⟨fun pins s σ H Q I h => ?_⟩
  obtain ⟨hs, ht⟩ := h
  refine wpAny_Call_Name_kw (thn ((pe_var (pos := p) hN hv hdb hcd).run pins s σ H (fun v H1 => v = .ref f ∧ H1 = H) I ⟨.ref f, hs, rfl, rfl⟩) fun u s1 ⟨v, H1, I1, r1, q1⟩ => ?_)
  obtain ⟨rfl, rfl⟩ := q1
  cases r1
  refine PySem.W.callWith_K (h₀ := X.base) I.ok.mod.kin hk (thn (ha.run pos pins s1 σ _ _ I1 ht) fun us s2 ⟨vs, H2, I2, r, q⟩ => ⟨I2.kIn, ?_⟩) he hpl
  exact run_fnS F hr hb (hx σ) I2 r q
theorem pe_never {e : Expr} : PE X e (fun _ _ _ => False) := ⟨fun _ _ _ _ _ _ h => h.elim⟩
end
/-- a def of values that may raise -/
def SpX (K : PySem.W.Frag) (C : Addr) (dom : List PyData → (PyData → Prop) → Prop → Prop) : Sp := fun vs H Q E =>
  ∃ (ds : List PyData) (P : PyData → Prop) (Np : Prop) (G : Hp), Ex G H ∧ RpAll K G vs ds ∧ dom ds P Np ∧ (∀ v d G' H', New G H G' H' → Rp K G' v d → P d → Q v H') ∧ (Np → ∀ G' H', New G H G' H' → E (.ref C) none H')
def SJX (K : PySem.W.Frag) (C : Addr) (X : XK) (t : TS) (δ : List Sl) (n : Nat) (E : AE) (Np : Prop) : Prop :=
  ∀ bx σ G H, EnvD K bx n δ σ G H → ∀ D : Ends,
    (∀ δ' n' σ' G' H', EnvD K bx n' δ' σ' G' H' → Sr bx δ σ G H δ' σ' G' H' → E.nx δ' n' → D.nx σ' H') →
    (∀ d n' v G' H', Rr bx n' δ σ G H G' H' → Rp K G' v d → E.rt d n' → D.rt v H') →
    (Np → ∀ n' G' H', Rr bx n' δ σ G H G' H' → X (.ref C) none H') → t D σ H
section
variable {K : PySem.W.Frag} {C : Addr} {X : XK} {bx : Option Addr} {n n1 n2 m : Nat} {δ δ' : List Sl} {σ : L2.St} {G H G' H' : Hp} {t u : TS} {tt : TT} {E : AE} {Np : Prop} {b : Bool}
theorem SJ.x (h : SJ K t δ n { E with bk := fun _ _ => False, ct := fun _ _ => False }) : SJX K C X t δ n E Np := fun bx σ G H En D h1 h2 _ => h bx σ G H En D h1 h2 (fun _ _ _ _ _ _ _ z => z.elim) (fun _ _ _ _ _ _ _ z => z.elim)
theorem sjx_seq (h : SJX K C X t δ n { E with nx := fun δ' n' => SJX K C X u δ' n' E Np } Np) : SJX K C X (tSeq t u) δ n E Np := fun bx σ G H En D h1 h2 h3 =>
  h bx σ G H En { D with nx := u D } (fun δ' n' σ' G' H' E' s j => j bx σ' G' H' E' D (fun δ2 n2 σ2 G2 H2 E2 s2 => h1 δ2 n2 σ2 G2 H2 E2 (s.trans s2)) (fun d n2 v G2 H2 r => h2 d n2 v G2 H2 (s.rr r)) (fun z n2 G2 H2 r => h3 z n2 G2 H2 (s.rr r))) h2 h3
theorem sjx_raise (h : Np) : SJX K C X (fun _ σ H => X (.ref C) none H) δ n E Np := fun bx σ G H En D h1 h2 h3 => h3 h n G H ⟨Ex.refl _, En.ex, fun _ _ _ _ e => e, fun _ _ e _ => e, En.box⟩
theorem sjx_if (h : XT K tt δ b) (k1 : b = true → SJX K C X t δ n E Np) (k2 : b = false → SJX K C X u δ n E Np) : SJX K C X (tIfS tt t u) δ n E Np := fun bx σ G H En D h1 h2 h3 =>
  h bx n σ G H En _ fun G' H' tr => by
    have s : Sr bx δ σ G H δ σ G' H' := tr.sr fun _ h => .inl h
    have go : ∀ {v : TS}, SJX K C X v δ n E Np → v D σ H' := fun j => j bx σ G' H' (En.step tr) D (fun δ2 n2 σ2 G2 H2 E2 s2 => h1 δ2 n2 σ2 G2 H2 E2 (s.trans s2)) (fun d n2 v G2 H2 r => h2 d n2 v G2 H2 (s.rr r)) (fun z n2 G2 H2 r => h3 z n2 G2 H2 (s.rr r))
    cases b with
    | true =>
      show t D σ H'
      exact go (k1 rfl)
    | false =>
      show u D σ H'
      exact go (k2 rfl)
end
section
variable {P : Program} {w : World} {K : PySem.W.Frag} {mg : Str → Option Value} {base : Heap} {x : Str} {st : Stmt} {N ps : List Str} {k : Nat} {C : Addr}
theorem funX_ok {dom : List PyData → (PyData → Prop) → Prop → Prop} (F : Df K mg x st) (S : FnScope N ps (defScope st)) (hl : ∀ ds P Np, dom ds P Np → ds.length = ps.length)
    (hb : ∀ (kV doc pm : Value) (an : Option Addr) (cdv ct : Value) (us : List Value), us.length = ps.length → bindArgs (PySem.W.fnOf x x (defArgs st) (defBody st) (defScope st) .none kV doc pm an cdv ct) ⟨us, []⟩ = pure (ps.zip us))
    (body : ∀ (f : Addr) (cdv : Value) (A : Around) (outer : List Env) (s : Shared) (H : Hp) (E : XK), Room k (A.deeper (envOfC x (defScope st) s.heap.objs.size f cdv)) →
      ∃ t, PSs (cxOf (L2.CX P w) P w K mg base N x (defScope st) f cdv A outer s H E) (defBody st) t ∧ ∀ ds P Np, dom ds P Np → SJX K C E t (inD ds N.length) 0 ⟨fun _ _ => P .none, fun d _ => P d, fun _ _ => False, fun _ _ => False⟩ Np) :
    ∃ f fd, FnOk P w K mg base (L2.CX P w) (k + 1) f fd ps (SpX K C dom) ∧ mg x = some (.ref f) ∧ PySem.W.keepIn K (.ref f) = true ∧ Binds K fd ps [] := by
  obtain ⟨f, fd, F, hm⟩ := F
  refine ⟨f, fd, F.ok S (fun vs H Q E h => ?_) (fun cdv A outer s H vs Q E hr h => ?_), hm, F.kp, F.bindsN hb⟩
  · obtain ⟨ds, P, Np, G, _, r, hd, _⟩ := h
    rw [dpa_len r]
    exact hl ds P Np hd
  · obtain ⟨ds, P, Np, G, hx, r, hd, q, q2⟩ := h
    obtain ⟨t, ht, hj⟩ := body f cdv A outer s H E hr
    refine ⟨t, ht, hj ds P Np hd none _ G H (envD_start hx r) _ (fun δ' n' σ' G' H' e sr p => ?_) (fun d n' v G' H' rr rv p => ?_) (fun z n' G' H' rr => ?_)⟩
    · exact q _ _ G' H' ⟨sr.gg, e.ex, fun q o h => sr.fr q o (fun z => nomatch z) inD_own h, fun q h1 h2 => sr.nw q h1 h2 inD_own⟩ .non p
    · exact q v d G' H' ⟨rr.gg, rr.ex, fun q o h => rr.fr q o (fun z => nomatch z) inD_own h, fun q h1 h2 => rr.nw q h1 h2 inD_own⟩ rv p
    · exact q2 z G' H' ⟨rr.gg, rr.ex, fun q o h => rr.fr q o (fun z => nomatch z) inD_own h, fun q h1 h2 => rr.nw q h1 h2 inD_own⟩
end
end Dry

set_option Elab.async false
set_option linter.all false
set_option maxRecDepth 100000
set_option maxHeartbeats 4000000
namespace Dry
open PySem PySem.Spec PyProof.Rows L2 RZ
/-! ### an int read off with nothing changed -/
def RI (te : TE) (σ : L2.St) (H : Hp) (i : Int) : Prop := ∀ Q : VK, Q (.int i) H → te σ H Q
section
variable {K : PySem.W.Frag} {ta tb te : TE} {σ : L2.St} {H : Hp} {i j : Int} {g : Int → Int → Int} {C : Int → Int → Prop}
theorem ri_var {k : Nat} (h : σ[k]? = some (some (.int i))) : RI (tVar k) σ H i := fun Q q => ⟨_, h, q⟩
theorem ri_c : RI (tC (.int i)) σ H i := fun Q q => q
theorem ri_0 (h1 : RI ta σ H i) (h2 : RI tb σ H j) : RI (tOp (rI0 fun i j => .int (g i j)) ta tb) σ H (g i j) := fun Q q => h1 _ (h2 _ ⟨i, j, rfl, rfl, q⟩)
theorem ri_C (h1 : RI ta σ H i) (h2 : RI tb σ H j) (hc : C i j) : RI (tOp (rI C fun i j => .int (g i j)) ta tb) σ H (g i j) := fun Q q => h1 _ (h2 _ ⟨i, j, rfl, rfl, hc, q⟩)
theorem ri_ix {a : Addr} {xs : List V} (hs : σ[0]? = some (some (.ref a))) (h : H a = some (.lst xs)) (h2 : RI tb σ H j) (hi : atI xs j = some (.int i)) : RI (tOp (rIxL K) (tVar 0) tb) σ H i := fun Q q =>
  ⟨_, hs, h2 _ ⟨a, xs, j, _, rfl, rfl, SqL.of h, hi, q⟩⟩
theorem ri_int (h1 : RI ta σ H i) : RI (tCB (fun xs H Q => (∃ i, xs = [V.int i] ∧ Q (.int i) H) ∨ ∃ k, xs = [V.bl k] ∧ Q (.int (if k then 1 else 0)) H) (tCons ta tNil)) σ H i := fun Q q => h1 _ (.inl ⟨i, rfl, q⟩)
theorem ts_set {k : Nat} {D : Ends} (h : RI te σ H i) (q : D.nx (σ.set k (some (.int i))) H) : tAsg te (gName k) D σ H := h _ q
theorem ts_put {k : Nat} {z : Int} {a : Addr} {xs : List V} {D : Ends} (h : RI te σ H i) (hs : σ[0]? = some (some (.ref a))) (ha : H a = some (.lst xs)) (hk : ixN xs.length z = some k) (q : D.nx σ (upd H a (.lst (xs.set k (.int i))))) : tAsg te (gSub (tVar 0) (tC (.int z)) rSetL) D σ H :=
  h _ ⟨_, hs, ⟨a, xs, z, k, rfl, rfl, ha, hk, q⟩⟩
end
section
variable {K : PySem.W.Frag} {bx : Option Addr} {n n1 n2 m : Nat} {δ δ' : List Sl} {σ : L2.St} {G H G' H' : Hp} {te ta tb : TE} {E : AE} {ds es : List PyData}
/-! ### lists of one's own -/
theorem xd_lenOwn {i : Nat} (h : δ[i]? = some (.own ds)) : XD K (tCB (fun xs H Q => ∃ p ys, xs = [V.ref p] ∧ (SqL K H p ys ∨ SqT K H p ys) ∧ Q (.int ys.length) H) (tCons (tVar i) tNil)) δ (.int ds.length) := xd_mk fun bx n σ G H E Q q => by
  obtain ⟨l, xs, e0, hb, gl, hll, hr⟩ := E.ok i _ h
  refine ⟨_, e0, l, xs, rfl, .inl (SqL.of hll), ?_⟩
  rw [dpa_len hr]
  exact q _ G H E.tr (.int _)
/-- found.append(pool.pop(e)) -/
theorem sj_appPop {i j : Nat} (hi : δ[i]? = some (.own ds)) (hj : δ[j]? = some (.own es)) (hij : i ≠ j) (h : XB K te δ n n1 (fun z => ∃ k : Nat, k < es.length ∧ z = .int (k : Int))) (hl : ds.length < 100000) (hl2 : es.length < 100000)
    (k : ∀ kk, kk < es.length → E.nx ((δ.set j (.own (es.eraseIdx kk))).set i (.own (ds ++ [es.getD kk .none]))) n1) :
    SJ K (tDrop (tBM K "list" rAppend (tVar i) (tCons (tBM K "list" rPopAt (tVar j) (tCons te tNil)) tNil))) δ n E := fun bx σ G H En D h1 h2 h3 h4 => by
  obtain ⟨l, xs, e0, hb, gl, hll, hr⟩ := En.ok i _ hi
  obtain ⟨l', xs', e0', hb', gl', hll', hr'⟩ := En.ok j _ hj
  have hne : l ≠ l' := fun z => hij (En.ds i j ds es l hi hj e0 (by rw [e0', z]))
  refine ⟨.ref l, e0, .inl ⟨rfl, xs, SqL.of hll⟩, .ref l', e0', .inl ⟨rfl, xs', SqL.of hll'⟩, h bx σ G H En _ fun v d G' H' t r ⟨kk, hk, e⟩ => ?_⟩
  subst e
  cases r
  have En' := En.step t
  have hl' := t.fr l _ hb hll
  have hl'' := t.fr l' _ hb' hll'
  obtain ⟨y, hy, ry⟩ := dpa_get hr' (getD_some (rs := es) hk .none)
  have hlen := dpa_len hr'
  have hlt : kk < xs'.length := by omega
  refine ⟨l', xs', (kk : Int), kk, y, rfl, rfl, hl'', by omega, by omega, (ixN_seq (ixN_nat hlt)).1, hy, ?_⟩
  have er : RpAll K G' (xs'.eraseIdx kk) (es.eraseIdx kk) := by
    rw [List.eraseIdx_eq_take_drop_succ, List.eraseIdx_eq_take_drop_succ]
    exact dpa_append (dpa_take _ (dpa_up t.gg hr')) (dpa_drop _ (dpa_up t.gg hr'))
  have En2 := En'.mutS hj e0' er
  have hi2 : (δ.set j (.own (es.eraseIdx kk)))[i]? = some (.own ds) := by rw [List.getElem?_set_ne (Ne.symm hij)]; exact hi
  have hl3 : (upd H' l' (.lst (xs'.eraseIdx kk))) l = some (.lst xs) := by rw [upd_ne hne]; exact hl'
  refine ⟨l, xs, y, rfl, rfl, hl3, sz_lt (by rw [dpa_len hr]; exact hl), ?_⟩
  have En3 := En2.mutS hi2 e0 (dpa_append (dpa_up t.gg hr) (.cons (dp_up t.gg ry) .nil))
  refine h1 _ n1 σ G' _ En3 ?_ (k kk hk)
  exact (sr_mut t hj e0').trans (sr_mut En2.tr hi2 e0)
/-- a list, or another where it is empty -/
theorem xn_orT {P1 P2 : List PyData → Prop} (h1 : XN K ta δ n n1 P1) (h2 : XN K tb δ n1 n1 P2) : XN K (tOrT K ta tb) δ n n1 (fun z => (z ≠ [] ∧ P1 z) ∨ P2 z) := fun bx σ G H En Q q =>
  h1 bx σ G H En _ fun p xs ds G' H' t hp gp hl r p1 => by
    refine ⟨!xs.isEmpty, .inl ⟨xs, SqL.of hl, rfl⟩, ?_⟩
    cases xs with
    | nil =>
      show tb σ H' Q
      exact h2 bx σ G' H' (En.step t) Q fun p2 xs2 ds2 G2 H2 t2 hp2 gp2 hl2 r2 p2' => q p2 xs2 ds2 G2 H2 (t.trans t2) (by
        cases z : H p2 with
        | none => rfl
        | some o => exact absurd hp2 (t.live (by rw [z]; exact fun y => nomatch y))) gp2 hl2 r2 (.inr p2')
    | cons x xs =>
      show Q (.ref p) H'
      refine q p _ ds G' H' t hp gp hl r (.inl ⟨fun e => ?_, p1⟩)
      subst e
      cases r
theorem rc_min2 {i j : Int} : RC K (fun xs H Q => ∃ i j, xs = [V.int i, .int j] ∧ Q (.int (if j < i then j else i)) H) [.int i, .int j] (fun z => z = .int (if j < i then j else i)) := rc_mk fun vs bx n δ σ G H E r Q q => by
  cases r with
  | cons ra rb =>
    obtain ⟨v, rfl, rv⟩ := one_of rb
    cases ra
    cases rv
    exact ⟨i, j, rfl, q _ G H E.tr (.int _)⟩
end
end Dry

set_option Elab.async false
set_option linter.all false
set_option maxRecDepth 100000
set_option maxHeartbeats 4000000
namespace Dry
open PySem PySem.Spec PyProof.Rows L2 RZ
/-! ### {k: v}, k a tuple -/
section
variable {prog : Program} {w : World} {K : Type} [DecidableEq K] {knd : HeapKind prog w K} {A : Around} {E : Value → Shared → Prop} {s : Shared}
theorem wpAny_Dict_walkT {env : Env} {keys : List (Option Expr)} {values : List Expr} {pos : Pos} {Q : Value → Shared → Prop} (hu : knd.room A)
    (hall : keys.all (·.isSome) = true) (hl : keys.length = values.length) (h0 : keys ≠ []) (hlen : keys.length ≤ 15)
    (h : wpAny (model prog w) A (evalPairs (pairTrees keys values env pos)) (fun vs s₁ => ∃ ps, CarriesH knd s₁.heap vs ps ∧ s₁.heap.DictOfH knd s.heap.objs.size [] ∧
      ∀ h' tk, h'.DictOfH knd s.heap.objs.size (storedAllH [] ps) → Heap.SameBut s.heap.objs.size s₁.heap h' → Q (.ref s.heap.objs.size) { s₁ with heap := h', toks := tk }) E
      { s with heap := s.heap.push { cls := .type "dict", data := .dict #[] } }) :
    wpAny (model prog w) A (eval (.Dict keys values pos) env) Q E s := by
  have hn := pairTrees_length keys values env pos hall hl
  have hp0 : pairTrees keys values env pos ≠ [] := by
    intro he
    rw [he] at hn
    exact h0 (List.length_eq_zero_iff.mp hn.symm)
  rw [arm_eval_Dict, zip_pairTrees keys values env pos hall hl, dictDisplay_pairs _ hp0 (by omega)]
  exact wpAny_bind (wpAny_standAt (wpAny_bind (wpAny_subDictH (knd := knd) (Q := fun d s' => wpAny (model prog w) A (pure (Value.ref d)) Q E s') hu (by omega)
    (wpAny_mono h (fun vs s₁ h₁ => by obtain ⟨ps, hc, hm, hq⟩ := h₁; exact ⟨ps, hc, hm, fun h' tk a b => wpAny_pure (hq h' tk a b)⟩) fun _ _ e => e))))
end
def tDispT1 (tk tv : TE) : TE := fun σ H Q => ∀ p, H p = none → tk σ (upd H p (.dT [])) fun x H1 => tv σ H1 fun y H2 => H2 p = some (.dT []) ∧ ∃ (k : List L2.Key) (b : Addr), x = .ref b ∧ H2 b = some (.tup (k.map kV)) ∧ Q (.ref p) (upd H2 p (.dT [(k, y)]))
theorem pe_dispT1 {X : Cx} {pos : Pos} {k v : Expr} {tk tv : TE} (hu : X.A.units + 1 < cLine) (hk : PE X k tk) (hv : PE X v tv) : PE X (.Dict [some k] [v] pos) (tDispT1 tk tv) := by
  refine ⟨fun pins s σ H Q I q => ?_⟩
  have hn := I.hok.fresh (Nat.le_refl s.heap.objs.size)
  have I1 := I.laid (a := s.heap.objs.size) (o := .dT []) (h' := s.heap.push { cls := .type "dict", data := .dict #[] }) (t' := s.toks) (fun _ _ q => Heap.get?_push_of_some _ q) (Nat.le_refl _) (dt_empty s.heap I.big)
  have hP : PPs X pos [some k] [v] [(tk, tv)] := pps_cons hk hv pps_nil
  refine wpAny_Dict_walkT (knd := tupleKind (mixKind X.prog X.w)) (show (tupleKind (mixKind X.prog X.w)).room X.A from by show X.A.units < cLine; omega) rfl rfl (by simp) (show 1 ≤ 15 by decide) (thn (hP.run pins _ σ _ (fun ps H2 => ∃ x y, ps = [(x, y)] ∧ H2 s.heap.objs.size = some (.dT []) ∧ ∃ (k : List L2.Key) (b : Addr), x = .ref b ∧ H2 b = some (.tup (k.map kV)) ∧ Q (.ref s.heap.objs.size) (upd H2 s.heap.objs.size (.dT [(k, y)]))) I1 ?_) fun ws s2 ⟨ps, H2, I2, rel, x, y, ep, e, kk, b, ex, eb, q2⟩ => ?_)
  · have q' := q _ hn
    show tk σ _ _
    refine cast ?_ q'
    congr 1
    funext x H1
    show tv σ H1 _ = tv σ H1 _
    congr 1
    funext y H2
    apply propext
    constructor
    · rintro ⟨h1, kk, b, h2, h3, h4⟩
      exact ⟨x, y, rfl, h1, kk, b, h2, h3, h4⟩
    · rintro ⟨x', y', h0, h1, kk, b, h2, h3, h4⟩
      cases h0
      exact ⟨h1, kk, b, h2, h3, h4⟩
  · subst ep ex
    cases rel with
    | @cons a c as cs h t =>
      cases t
      obtain ⟨u1, u2⟩ := c
      obtain ⟨r1, r2⟩ := h
      have e1 : u1 = .ref b := r1
      subst e1
      obtain ⟨z, hd, xs, rl, dd⟩ := dt_of I2.hok e
      cases rl
      refine ⟨[(kk, b, u2)], ⟨rfl, rfl, key_of I2.hok eb, trivial⟩, dd, fun h' tk dd' hs => ⟨.ref s.heap.objs.size, _, ?_, rfl, q2⟩⟩
      obtain ⟨qo, es, ep, hq, h2, h3, h4, _, h5⟩ := dd'
      refine d_write (t' := tk) I2 (by rw [e]; exact True.intro) hs ⟨qo, hq⟩ ⟨by rw [sizeLine_eq]; exact (by decide : 1 ≤ 16777216), hd, [(kk, b, u2)], ?_, qo, es, ep, hq, h2, h3, h4, h5⟩
      refine .cons ⟨rfl, ?_, r2⟩ .nil
      show upd H2 s.heap.objs.size _ b = _
      rw [upd_ne (fun (w : b = s.heap.objs.size) => by rw [w, e] at eb; cases eb)]
      exact eb
/-! ### dict slots -/
abbrev kOf (r : List Int) : List L2.Key := r.map Sum.inl
theorem kOf_V (r : List Int) : (kOf r).map kV = r.map V.int := by
  rw [List.map_map]
  rfl
section
variable {K : PySem.W.Frag} {bx : Option Addr} {n n1 n2 m : Nat} {δ δ' : List Sl} {σ : L2.St} {G H G' H' : Hp} {te ta tb : TE} {E : AE} {r : List Int} {kvs : List (List L2.Key × V)}
theorem row_at {v : V} (h : Rp K G v (rowD r)) : ∃ b, v = .ref b ∧ G b = some (.tup ((kOf r).map kV)) := by
  obtain ⟨a, xs, rfl, hs, hr⟩ := dp_tup_inv h
  rw [dpa_ints hr] at hs
  exact ⟨a, rfl, by rw [kOf_V]; exact hs⟩
theorem xd_notInDic {j : Nat} (hj : δ[j]? = some (.dic kvs)) (h : XD K te δ (rowD r)) : XD K (tDNotIn te (tVar j)) δ (.bool (!(valV kvs (kOf r)).isSome)) := xd_mk fun bx n σ G H E Q q => h.run E fun v G1 H1 t1 r1 => by
  obtain ⟨a, e, hb, ha⟩ := (E.step t1).ok j _ hj
  obtain ⟨b, rfl, hb2⟩ := row_at r1
  exact ⟨_, e, a, _, rfl, DGet.t ha (t1.ex _ _ hb2), q _ G1 H1 t1 (.bl _)⟩
theorem xd_lenDic {j : Nat} (hj : δ[j]? = some (.dic kvs)) : XD K (tCB rLenT (tCons (tVar j) tNil)) δ (.int (kvs.length : Nat)) := xd_mk fun bx n σ G H E Q q => by
  obtain ⟨a, e, hb, ha⟩ := E.ok j _ hj
  exact ⟨_, e, a, kvs, rfl, ha, q _ G H E.tr (.int _)⟩
/-- a def of values that gives a new dict -/
def SpK (K : PySem.W.Frag) (dom : List PyData → (List (List L2.Key × V) → Prop) → Prop) : Sp := fun vs H Q _ =>
  ∃ (ds : List PyData) (P : List (List L2.Key × V) → Prop) (G : Hp), Ex G H ∧ RpAll K G vs ds ∧ dom ds P ∧ ∀ p kvs G' H', New G H G' H' → H' p = some (.dT kvs) → P kvs → Q (.ref p) H'
theorem xs_dic {tr : TA} {ds : List PyData} {dom : List PyData → (List (List L2.Key × V) → Prop) → Prop} {P : List (List L2.Key × V) → Prop} (h : XAD K tr δ ds) (hd : dom ds P) : XS K (tCall (SpK K dom) [] E0 tr) δ n n (fun s => ∃ kvs, s = .dic kvs ∧ P kvs) := fun bx σ G H En Q q =>
  h n bx σ G H En _ fun vs ds1 G1 H1 t1 r1 p1 => by
    subst p1
    rw [List.append_nil]
    refine ⟨_, P, G1, t1.ex, r1, hd, fun p kvs G2 H2 nw hp pk => ?_⟩
    have t2 := t1.trans ((En.step t1).trNew nw.gg nw.ex nw.hh nw.nw)
    refine q (.ref p) (.dic kvs) G2 H2 t2 ⟨p, rfl, fun z => ?_, hp⟩ (fun _ _ _ z => nomatch z) ⟨kvs, rfl, pk⟩
    obtain ⟨_, _, _, h3, _⟩ := t2.box p z
    rw [h3] at hp
    cases hp
end
end Dry

set_option Elab.async false
set_option linter.all false
set_option maxRecDepth 100000
set_option maxHeartbeats 4000000
namespace Dry
open PySem PySem.Spec PyProof.Rows L2 RZ
section
variable {K : PySem.W.Frag} {bx : Option Addr} {n n1 n2 m c : Nat} {δ δ' : List Sl} {σ : L2.St} {G H G' H' : Hp} {te ta tb : TE} {tr : TA} {E : AE} {P : PyData → Prop} {PL : List PyData → Prop}
theorem SlNew.mono {v : V} {s : Sl} (r : SlNew K bx δ σ G H v s) (t : Tr bx n G H G' H') : SlNew K bx δ σ G' H' v s := by
  cases s with
  | un => trivial
  | val d => exact dp_up t.gg r
  | own ds =>
    obtain ⟨p, xs, e, hb, ho, g, hl, r⟩ := r
    exact ⟨p, xs, e, hb, ho, t.nw p (by rw [hl]; exact fun z => nomatch z) g, t.fr p _ hb hl, dpa_up t.gg r⟩
  | dic kvs =>
    obtain ⟨p, e, hb, h⟩ := r
    exact ⟨p, e, hb, t.fr p _ hb h⟩
  | box => exact r
  | fz _ => exact r
/-- x, y = a, b by way of a tuple -/
theorem sj_parT {i j : Nat} {PS PS' : Sl → Prop} (h : XS K ta δ n n1 PS) (h' : XS K te δ n1 n2 PS') (k : ∀ s s', PS s → PS' s' → E.nx ((δ.set i s).set j s') n2) : SJ K (tAsg (tTup (tCons ta (tCons te tNil))) (gTup K 2 (gCons (gName i) (gCons (gName j) gNil)))) δ n E := fun bx σ G H En D h1 h2 h3 h4 =>
  h bx σ G H En _ fun v s G1 H1 t1 r1 hf1 p1 => h' bx σ G1 H1 (En.step t1) _ fun w s' G2 H2 t2 r2 hf2 p2 => ⟨by show 2 ≤ sizeLine; decide, fun T hT => by
    have E2 := (En.step t1).step t2
    have t3 := E2.trOwn (o := .tup [v, w]) hT
    have E3 := E2.step t3
    have r1' := (r1.mono t2).mono t3
    have r2' := r2.mono t3
    have hf1' : ∀ q ds, v = .ref q → s = .own ds → H q = none := hf1
    refine ⟨T, [v, w], rfl, SqT.of upd_same, rfl, _, _, rfl, _, _, rfl, rfl, ?_⟩
    have E4 := E3.setS (i := i) r1'
    have r2'' : SlNew K bx (δ.set i s) (σ.set i (some v)) G2 (upd H2 T (.tup [v, w])) w s' := by
      cases s' with
      | un => trivial
      | val d => exact r2'
      | own ds =>
        obtain ⟨p, xs, e, hb, ho, g, hl, r⟩ := r2'
        refine ⟨p, xs, e, hb, fun z => ?_, g, hl, r⟩
        rcases own_setS En.len z with z | ⟨z1, es, z2⟩
        · exact ho z
        · subst z2
          obtain ⟨p', ys, e', _, _, _, hl', _⟩ := r1
          have a1 : H1 p = none := hf2 p ds e rfl
          rw [z1] at e'
          cases e'
          rw [hl'] at a1
          cases a1
      | dic kvs => exact r2'
      | box => exact r2'
      | fz _ => exact r2'
    refine h1 _ n2 _ G2 _ (E4.setS (i := j) r2'') (((t1.trans t2).trans t3).sr fun q ho => ?_) (k s s' p1 p2)
    rcases own_setS E4.len ho with ho | ⟨e1, ds, e2⟩
    · rcases own_setS En.len ho with ho | ⟨e1, ds, e2⟩
      · exact .inl ho
      · exact .inr (hf1 q ds e1 e2)
    · refine .inr ?_
      have := hf2 q ds e1 e2
      cases y : H q with
      | none => rfl
      | some o => exact absurd this (t1.live (by rw [y]; exact fun w => nomatch w))⟩
theorem xb_callBw {dom : List PyData → Nat → (PyData → Prop) → Prop} {E : XK} {i : Nat} (hi : δ[i]? = some .box) (h : XA K tr δ n n1 PL) (hd : ∀ ds, PL ds → ∃ P0, dom ds c P0 ∧ ∀ z, P0 z → P z) (hc : n1 + c ≤ 2 ^ 50) : XB K (tCall (SpB K dom) [] E (tCons (tVar i) tr)) δ n (n1 + c) P := fun bx σ G H En Q q => by
  obtain ⟨a, ha, hs⟩ := En.ok i _ hi
  subst ha
  refine ⟨.ref a, hs, h (some a) σ G H En _ fun vs ds G1 H1 t1 r1 p1 => ?_⟩
  show SpB K dom ((V.ref a :: vs) ++ []) H1 Q E
  rw [List.append_nil]
  have E1 := En.step t1
  obtain ⟨P0, h0, h2⟩ := hd ds p1
  exact ⟨a, vs, ds, c, P0, n1, G1, rfl, E1.bf a rfl, E1.box a rfl, hc, t1.ex, r1, h0, fun v d G2 H2 t2 r2 p2 => q v d G2 H2 (t1.trans t2) r2 (h2 d p2)⟩
theorem sel_forall {R : PyData → Prop} : ∀ {i : Nat} {ds : List PyData}, Sel (fun _ => true) (fun _ d => R d) i ds → ds.length = i ∧ ∀ d ∈ ds, R d
  | 0, ds, h => by rw [show ds = [] from h]; exact ⟨rfl, fun d hd => by simp at hd⟩
  | i + 1, ds, h => by
    unfold Sel at h
    rw [if_pos rfl] at h
    obtain ⟨es, d, rfl, h1, h2⟩ := h
    obtain ⟨a, b⟩ := sel_forall h1
    refine ⟨by simp [a], fun x hx => ?_⟩
    rcases List.mem_append.mp hx with hx | hx
    · exact b x hx
    · simp only [List.mem_singleton] at hx
      rw [hx]
      exact h2
/-- of data that all are of a kind, the kinds -/
theorem list_enc {α : Type} {enc : α → PyData} {Q : α → Prop} : ∀ {ds : List PyData}, (∀ d ∈ ds, ∃ x, d = enc x ∧ Q x) → ∃ xs : List α, ds = xs.map enc ∧ xs.length = ds.length ∧ ∀ x ∈ xs, Q x
  | [], _ => ⟨[], rfl, rfl, fun x hx => by simp at hx⟩
  | d :: ds, h => by
    obtain ⟨x, e, hq⟩ := h d (by simp)
    obtain ⟨xs, e1, e2, e3⟩ := list_enc (ds := ds) fun y hy => h y (by simp [hy])
    refine ⟨x :: xs, by rw [e, e1]; rfl, by simp [e2], fun y hy => ?_⟩
    rcases List.mem_cons.mp hy with rfl | hy
    · exact hq
    · exact e3 y hy
end
end Dry

set_option Elab.async false
set_option linter.all false
set_option maxRecDepth 100000
set_option maxHeartbeats 4000000
namespace Dry
open PySem PySem.Spec PyProof.Rows L2 RZ
/-! ### sum(xs, ()), xs a tuple of tuples -/
section
variable {prog : Program} {w : World} {A : Around} {R : Result → Shared → Prop} {I : Addr} {fp wr : List Addr} {n : Nat} {P : Nat → Value → Prop} {St : Nat → Heap → Prop} {T : String} {Acc : Heap → Addr → List Value → Prop}
theorem call_sum_twoT {E : Value → Shared → Prop} {s : Shared} {l b0 : Addr} {items : Array Value} {Q : Value → Shared → Prop} (hT : T = "tuple" ∨ T = "list") (g : Glue prog w T Acc) (hh : A.handled = none) (hl : s.heap.IsTuple l items) (f : Nat → List Value) (Old : Addr → List Value → Prop)
    (hval : ∀ (i : Nat) v, items[i]? = some v → ∃ b, v = .ref b ∧ Acc s.heap b (f i) ∧ Old b (f i)) (h0 : Acc s.heap b0 []) (o0 : Old b0 []) (hz : (pre f items.size).length ≤ sizeLine)
    (h : ∀ h' tk' t', (∀ b o, s.heap.get? b = some o → h'.get? b = some o) → Acc h' t' (pre f items.size) → (Old t' (pre f items.size) ∨ s.heap.objs.size ≤ t') → Q (.ref t') { s with heap := h', toks := tk' }) :
    wpAny (model prog w) A (call (.builtin "sum") [.ref l, .ref b0]) Q E s := by
  have hlt : l < s.heap.objs.size := by obtain ⟨_, e, _⟩ := hl; exact Heap.lt_size e
  obtain ⟨s1, s2, s3⟩ := sub_seq_text hT
  refine call_function_tree F.kind_sum F.plain_sum F.entry_sum (args_sum_two _ _) ?_
  unfold Builtin.«sum»
  simp only [List.length_cons, List.length_nil]
  rw [if_neg (by decide)]
  refine wpAny_bind (wpAny_of_eq (show Builtin.Builtins.bindParams "sum" ["start"] 0 ⟨[.ref b0], []⟩ = pure [some (.ref b0)] from rfl) ?_)
  refine wpAny_bind (wpAny_pyIter_tuple hl ?_)
  have hp : ∀ a vs, Acc s.heap a vs → Acc (s.heap.push { cls := .type "tuple_iterator", data := .fields #[.ref l, .int 0 0] }) a vs := fun a vs q => g.keep _ _ _ _ q fun o e => Heap.get?_push_of_some _ e
  refine wpAny_bind (wpAny_pure ?_)
  simp only [List.forIn_cons, List.forIn_nil]
  have hty := g.ty { s with heap := s.heap.push { cls := .type "tuple_iterator", data := .fields #[.ref l, .int 0 0] } } b0 [] (hp _ _ h0)
  refine wpAny_bind (wpAny_bind (wpAny_bind (wpAny_isInstance (T := T) (b := false) hty s1 ?_)))
  simp only [Bool.false_eq_true, if_false]
  refine wpAny_pure (wpAny_bind (wpAny_bind (wpAny_isInstance (T := T) (b := false) hty s2 ?_)))
  simp only [Bool.false_eq_true, if_false]
  refine wpAny_pure (wpAny_bind (wpAny_bind (wpAny_isInstance (T := T) (b := false) hty s3 ?_)))
  simp only [Bool.false_eq_true, if_false]
  refine wpAny_pure (wpAny_pure ?_)
  refine wpAny_bind (wpAny_newObj_type ?_)
  have z1 : (s.heap.push { cls := .type "tuple_iterator", data := .fields #[.ref l, .int 0 0] }).objs.size = s.heap.objs.size + 1 := Heap.size_push ..
  have kp : ∀ b o, s.heap.get? b = some o → ((s.heap.push { cls := .type "tuple_iterator", data := .fields #[.ref l, .int 0 0] }).push { cls := .type "list", data := .seq #[.ref b0] }).get? b = some o := fun b o e => Heap.get?_push_of_some _ (Heap.get?_push_of_some _ e)
  have nl : ∀ b vs, Acc s.heap b vs → b ∉ (s.heap.push { cls := .type "tuple_iterator", data := .fields #[.ref l, .int 0 0] }).objs.size :: [s.heap.objs.size] := fun b vs q hm => by
    obtain ⟨o, e⟩ := g.live _ _ _ q
    have a1 := Heap.lt_size e
    rcases List.mem_cons.mp hm with z | z
    · rw [z, z1] at a1
      exact absurd a1 (Nat.not_lt.mpr (Nat.le_succ _))
    · rw [List.mem_singleton.mp z] at a1
      exact Nat.lt_irrefl _ a1
  refine wpAny_pure ⟨plainId_quiet F.plain_sum_loop _, ?_⟩
  refine sum2_loop g (Walks.tuple (prog := prog) (w := w) (A := A.in1) hh s.heap.objs.size l (Nat.ne_of_lt hlt) items) (s.heap.push { cls := .type "tuple_iterator", data := .fields #[.ref l, .int 0 0] }).objs.size ?_
    { s with heap := (s.heap.push { cls := .type "tuple_iterator", data := .fields #[.ref l, .int 0 0] }).push { cls := .type "list", data := .seq #[.ref b0] } } f Old (Heap.size_push ..) (fun b hb => ?_) (fun i v hi hv => ?_) hz items.size 0 _ _ b0 _ (by omega) (Nat.zero_le _) ?_ (Heap.get?_push_size _ rfl) (fun _ _ _ e => e) ?_ ?_ (.inl o0) (fun h' tk' t' hk ha ho => ?_)
  · intro hm
    rcases List.mem_cons.mp hm with z | z
    · rw [z1] at z
      exact absurd z (Nat.succ_ne_self _)
    · have e := List.mem_singleton.mp z
      rw [z1] at e
      rw [← e] at hlt
      exact absurd hlt (Nat.not_lt.mpr (Nat.le_succ _))
  · show b < ((s.heap.push { cls := .type "tuple_iterator", data := .fields #[.ref l, .int 0 0] }).push { cls := .type "list", data := .seq #[.ref b0] }).objs.size
    rw [Heap.size_push, z1]
    rcases List.mem_cons.mp hb with z | z
    · rw [z, z1]
      exact Nat.lt_succ_self _
    · rw [List.mem_singleton.mp z]
      exact Nat.lt_of_lt_of_le (Nat.lt_succ_self _) (Nat.le_succ _)
  · obtain ⟨b, e, a1, o1⟩ := hval i v hv
    exact ⟨b, e, nl b _ a1, g.keep _ _ _ _ a1 (kp b), o1⟩
  · exact ⟨⟨_, Heap.get?_push_of_some _ (Heap.get?_push_size _ rfl), rfl, rfl⟩, (hl.push _).push _⟩
  · exact g.keep _ _ _ _ h0 (kp b0)
  · exact nl b0 _ h0
  · refine h h' tk' t' (fun b o e => hk b o (fun hm => ?_) (kp b o e)) ha (ho.imp id fun z => ?_)
    · have a1 := Heap.lt_size e
      rcases List.mem_cons.mp hm with z | z
      · rw [z, z1] at a1
        exact absurd a1 (Nat.not_lt.mpr (Nat.le_succ _))
      · rw [List.mem_singleton.mp z] at a1
        exact Nat.lt_irrefl _ a1
    · refine Nat.le_trans ?_ z
      show s.heap.objs.size ≤ ((s.heap.push { cls := .type "tuple_iterator", data := .fields #[.ref l, .int 0 0] }).push { cls := .type "list", data := .seq #[.ref b0] }).objs.size
      rw [Heap.size_push, z1]
      exact Nat.le_trans (Nat.le_succ _) (Nat.le_succ _)
end
/-- sum(xs, ()), xs a tuple of tuples -/
def rSum3 (K : PySem.W.Frag) : List V → Hp → VK → Prop := fun vs H Q =>
  ∃ (a b : Addr) (xs : List V) (ys : List (List V)), vs = [V.ref a, V.ref b] ∧ SqT K H a xs ∧ SqT K H b [] ∧ ys.length = xs.length ∧ (∀ (i : Nat) (x : V) (y : List V), xs[i]? = some x → ys[i]? = some y → ∃ q : Addr, x = .ref q ∧ SqT K H q y) ∧ ys.flatten.length ≤ sizeLine ∧
    (∀ p : Addr, (p = b ∧ ys.flatten = []) ∨ (∃ i : Nat, xs[i]? = some (V.ref p) ∧ ys[i]? = some ys.flatten) → Q (.ref p) H) ∧ ∀ p, H p = none → Q (.ref p) (upd H p (.tup ys.flatten))
section
variable {X : Cx} {K : PySem.W.Frag}
theorem cSum3 (hc : X.calm = true) (hK : X.K = K := by rfl) : CallR X (.builtin "sum") (rSum3 K) := by
  subst hK
  intro pins s σ H vs us Q I r h
  obtain ⟨a, b, xs, ys, rfl, ha, hb, hl, hi, hz, q1, q2⟩ := h
  obtain ⟨u1, u2, rfl, r1, r2⟩ := vals2 r
  cases r1
  cases r2
  obtain ⟨its, rv, pl, _⟩ := I.tuple ha
  have l1 := rv.length
  have hch : ∀ i, i < ys.length → ∃ w : List Value, ∃ y q, ys[i]? = some y ∧ xs[i]? = some (.ref q) ∧ SqT X.K H q y ∧ Vals y w ∧ IsTup s.heap q w.toArray := fun i hi' => by
    have e1 := List.getElem?_eq_getElem hi'
    have e2 := List.getElem?_eq_getElem (show i < xs.length by omega)
    obtain ⟨q, e3, hq⟩ := hi i _ _ e2 e1
    obtain ⟨w, rw', pw, _⟩ := I.tuple hq
    exact ⟨w, _, q, e1, by rw [e2, e3], hq, rw', pw⟩
  obtain ⟨f, hf⟩ := choose_vals hch
  have hv : ∀ (i : Nat) y, ys[i]? = some y → Vals y (f i) := fun i y e => by
    obtain ⟨y', q, e1, _, _, h3, _⟩ := hf i (List.getElem?_eq_some_iff.mp e).1
    rw [e] at e1
    cases e1
    exact h3
  have hn : its.toArray.size = ys.length := by rw [List.size_toArray]; omega
  have hpre := pre_vals hv ys.length (Nat.le_refl _)
  rw [List.take_length] at hpre
  obtain ⟨itb, rb, pb, _⟩ := I.tuple hb
  cases rb
  refine call_sum_twoT (Acc := fun h a vs => IsTup h a vs.toArray) (.inl rfl) glue_tup (I.ok.hd hc) (show s.heap.IsTuple a its.toArray from pl) f (fun q vs => (q = b ∧ vs = []) ∨ ∃ (i : Nat) (y : List V), xs[i]? = some (V.ref q) ∧ ys[i]? = some y ∧ Vals y vs) (fun i v e => ?_) pb (.inl ⟨rfl, rfl⟩) (by rw [hn, ← hpre.length]; exact hz) fun h' tk' t' hk ha' ho => ?_
  · have e' : its[i]? = some v := by simpa using e
    obtain ⟨y, q, e1, e2, h3, h4, h5⟩ := hf i (by have := (List.getElem?_eq_some_iff.mp e').1; omega)
    obtain ⟨u, hu, ru⟩ := rv.get e2
    rw [e'] at hu
    cases hu
    cases ru
    exact ⟨q, rfl, h5, .inr ⟨i, y, e2, e1, h4⟩⟩
  · rw [hn] at ha' ho
    rcases ho with (⟨e1, e2⟩ | ⟨i, y, hx, hy, ry⟩) | ho
    · rw [e2] at hpre
      refine ⟨.ref t', H, I.kept hk, rfl, q1 t' (.inl ⟨e1, ?_⟩)⟩
      have := hpre.length
      exact List.eq_nil_of_length_eq_zero this
    · have ey : y = ys.flatten := ry.inj hpre
      rw [ey] at hy
      exact ⟨.ref t', H, I.kept hk, rfl, q1 t' (.inr ⟨i, hx, hy⟩)⟩
    · exact ⟨.ref t', _, I.laid (o := .tup ys.flatten) hk ho ⟨hz, _, hpre, ha'⟩, rfl, q2 t' (I.hok.fresh ho)⟩
theorem rc_sumTT {dss : List (List PyData)} {ds : List PyData} (e : ds = dss.map PyData.tuple) (hz : dss.flatten.length ≤ 100000) : RC K (rSum3 K) [.tuple ds, .tuple []] (fun z => z = .tuple dss.flatten) := rc_mk fun vs bx n δ σ G H E r Q q => by
  subst e
  cases r with
  | cons ra rb =>
    obtain ⟨v, rfl, rv⟩ := one_of rb
    obtain ⟨a, xs, rfl, hs, hr⟩ := dp_tup_inv ra
    obtain ⟨b, zs, rfl, hs2, hr2⟩ := dp_tup_inv rv
    cases hr2
    obtain ⟨ys, l, h3, h4⟩ := dpa_tups hr
    refine ⟨a, b, xs, ys, rfl, E.ex.t hs, E.ex.t hs2, l, fun i x y e1 e2 => ?_, sz_of (by rw [dpa_len h4]; exact hz), fun p hp => ?_, fun p hp => ?_⟩
    · obtain ⟨q, e, h5⟩ := h3 i x y e1 e2
      exact ⟨q, e, E.ex.t h5⟩
    · rcases hp with ⟨rfl, e1⟩ | ⟨i, e1, e2⟩
      · rw [e1] at h4
        exact q _ G H E.tr (.tup hs2 h4)
      · obtain ⟨q', e, h5⟩ := h3 i _ _ e1 e2
        cases e
        exact q _ G H E.tr (.tup h5 h4)
    · exact q _ _ _ (E.trUpd hp) (.tup upd_same (dpa_up (Ex.new (E.ex.free hp)) h4))
end
end Dry

set_option Elab.async false
set_option linter.all false
set_option maxRecDepth 100000
set_option maxHeartbeats 4000000
namespace Dry
open PySem PySem.Spec PyProof.Rows L2 RZ
/-! ### a def that is given the script's list -/
def SpC (K : PySem.W.Frag) (dom : List PyData → List PyData → (PyData → Prop) → Prop) : Sp := fun vs H Q _ =>
  ∃ (a : Addr) (xs ws : List V) (ds es : List PyData) (P : PyData → Prop) (G : Hp), vs = .ref a :: ws ∧ Ex G H ∧ SqL K G a xs ∧ RpAll K G xs ds ∧ RpAll K G ws es ∧ dom ds es P ∧ ∀ v d G' H', New G H G' H' → Rp K G' v d → P d → Q v H'
section
variable {K : PySem.W.Frag} {te tl th : TE} {tr : TA} {to tp : TO} {δ : List Sl} {n n1 : Nat} {P : PyData → Prop} {ds es : List PyData} {PL : List PyData → Prop} {G H : Hp} {xs vs : List V} {a : Addr}
theorem xb_callC {dom : List PyData → List PyData → (PyData → Prop) → Prop} {E : XK} {i : Nat} (hi : δ[i]? = some (.fz ds)) (h : XA K tr δ n n1 PL) (hd : ∀ es, PL es → dom ds es P) : XB K (tCall (SpC K dom) [] E (tCons (tVar i) tr)) δ n n1 P := fun bx σ G H En Q q => by
  obtain ⟨a, xs, hs, sq, r⟩ := En.ok i _ hi
  refine ⟨.ref a, hs, h bx σ G H En _ fun vs es G1 H1 t1 r1 p1 => ?_⟩
  show SpC K dom ((V.ref a :: vs) ++ []) H1 Q E
  rw [List.append_nil]
  exact ⟨a, xs, vs, ds, es, P, G1, rfl, t1.ex, t1.gg.sq sq, dpa_up t1.gg r, r1, hd es p1, fun v d G2 H2 nw r2 p2 => q v d G2 H2 (t1.trans ((En.step t1).trNew nw.gg nw.ex nw.hh nw.nw)) r2 p2⟩
theorem xn_slFz {lo hi : Option Int} {i : Nat} (hj : δ[i]? = some (.fz ds)) (hl : XO K to δ lo) (hh : XO K tp δ hi) : XN K (tSl (rSlL K) (tVar i) to tp) δ n n (fun z => z = cutP ds lo hi) := fun bx σ G H E Q q => by
  obtain ⟨a, xs, hs, sq, r⟩ := E.ok i _ hj
  refine ⟨.ref a, hs, hl bx n σ G H E _ fun G2 H2 t2 => hh bx n σ G2 H2 (E.step t2) _ fun G3 H3 t3 => ?_⟩
  have t := t2.trans t3
  have E3 := E.step t
  refine ⟨a, xs, rfl, E3.ex.sq (t.gg.sq sq), fun p hp => ?_⟩
  have hp0 : H p = none := by
    cases z : H p with
    | none => rfl
    | some o => exact absurd hp (t.live (by rw [z]; exact fun y => nomatch y))
  exact q p _ _ G3 _ (t.trans (E3.trOwn hp)) hp0 (E3.ex.free hp) upd_same (dpa_cut (dpa_up t.gg r) lo hi) rfl
theorem inC_own {c : Nat} {σ : L2.St} {q : Addr} : ¬ OwnA (.fz ds :: inD es c) σ q := fun ⟨i, fs, h, h2⟩ => by
  cases i with
  | zero => cases h
  | succ i => exact inD_own (σ := σ.tail) (q := q) ⟨i, fs, h, by cases σ with
    | nil => cases h2
    | cons v r => exact h2⟩
theorem envC_start {N : List Str} (hN : N ≠ []) (hx : Ex G H) (hs : SqL K G a xs) (hr : RpAll K G xs ds) (hr2 : RpAll K G vs es) : EnvD K none 0 (.fz ds :: inD es (N.length - 1)) (L2.start N (.ref a :: vs)) G H := by
  have e0 : EnvD K none 0 (inD es (N.length - 1)) (vs.map some ++ List.replicate (N.length - 1 - vs.length) none) G H := by
    cases N with
    | nil => exact absurd rfl hN
    | cons x N => exact envD_start (N := N) hx hr2
  have e2 : L2.start N (.ref a :: vs) = some (.ref a) :: (vs.map some ++ List.replicate (N.length - 1 - vs.length) none) := by
    unfold L2.start
    rw [List.length_cons, List.map_cons, List.cons_append, Nat.sub_sub, Nat.add_comm 1]
  rw [e2]
  refine ⟨hx, ?_, (fun _ z => nomatch z), (fun _ z => nomatch z), fun i s h => ?_, fun i j ds' es' l h _ h3 _ => absurd ⟨i, ds', h, h3⟩ inC_own⟩
  · rw [List.length_cons, List.length_cons, e0.len]
  · cases i with
    | zero =>
      cases h
      exact ⟨a, xs, rfl, hs, hr⟩
    | succ i => exact e0.ok i s h
end
section
variable {P : Program} {w : World} {K : PySem.W.Frag} {mg : Str → Option Value} {base : Heap} {x : Str} {st : Stmt} {N ps : List Str} {k : Nat} {f : Addr} {fd : FuncData}
theorem fun_okC {dom : List PyData → List PyData → (PyData → Prop) → Prop} (F : FunD K x x (defArgs st) (defBody st) (defScope st) [] [] f fd) (S : FnScope N ps (defScope st)) (hN : N ≠ []) (hl : ∀ ds es P, dom ds es P → es.length + 1 = ps.length)
    (body : ∀ (f : Addr) (cdv : Value) (A : Around) (outer : List Env) (s : Shared) (H : Hp) (E : XK), Room k (A.deeper (envOfC x (defScope st) s.heap.objs.size f cdv)) →
      ∃ t, PSs (cxOf CX0 P w K mg base N x (defScope st) f cdv A outer s H E).nox (defBody st) t ∧ ∀ ds es P, dom ds es P → SJ K t (.fz ds :: inD es (N.length - 1)) 0 ⟨fun _ _ => P .none, fun d _ => P d, fun _ _ => False, fun _ _ => False⟩) :
    FnOk P w K mg base CX0 (k + 1) f fd ps (SpC K dom) := by
  refine F.ok S (fun vs H Q E h => ?_) (fun cdv A outer s H vs Q E hr h => ?_)
  · obtain ⟨a, xs, ws, ds, es, P, G, rfl, _, _, _, r, hd, _⟩ := h
    rw [List.length_cons, dpa_len r]
    exact hl ds es P hd
  · obtain ⟨a, xs, ws, ds, es, P, G, rfl, hx, sq, r, r2, hd, q⟩ := h
    obtain ⟨t, ht, hj⟩ := body f cdv A outer s H E hr
    refine ⟨t, ht.nox, hj ds es P hd none _ G H (envC_start hN hx sq r r2) _ (fun δ' n' σ' G' H' e sr p => ?_) (fun d n' v G' H' rr rv p => ?_) (fun _ _ _ _ _ _ _ z => z.elim) (fun _ _ _ _ _ _ _ z => z.elim)⟩
    · exact q _ _ G' H' ⟨sr.gg, e.ex, fun q o h => sr.fr q o (fun z => nomatch z) inC_own h, fun q h1 h2 => sr.nw q h1 h2 inC_own⟩ .non p
    · exact q v d G' H' ⟨rr.gg, rr.ex, fun q o h => rr.fr q o (fun z => nomatch z) inC_own h, fun q h1 h2 => rr.nw q h1 h2 inC_own⟩ rv p
end
end Dry

set_option Elab.async false
set_option linter.all false
set_option maxRecDepth 100000
set_option maxHeartbeats 4000000
namespace Dry
open PySem PySem.Spec PyProof.Rows L2 RZ
section
variable {P : Program} {w : World} {K : PySem.W.Frag} {mg : Str → Option Value} {base : Heap}
theorem sc_is_number : FnScope ["thing"] ["thing"] (defScope s_is_number) := ⟨rfl, rfl, rfl, by decide +kernel, rfl, by decide +kernel, by decide +kernel⟩
def isNum (d : PyData) : Bool := isInt d && !isBool d
abbrev lv_is_number : Nat := 1
def dom_is_number : List PyData → (PyData → Prop) → Prop := fun ds0 P0 => ∃ (d : PyData), ds0 = [d] ∧ P0 = (fun z => z = .bool (isNum d))
abbrev sp_is_number (K : PySem.W.Frag) : Sp := SpD K dom_is_number
theorem xc_is_number {K : PySem.W.Frag} {tr : TA} {δ : List Sl} {d : PyData} (h0 : XAD K tr δ [d]) : XD K (tCall (sp_is_number K) [] E0 tr) δ (.bool (isNum d)) := xd_callD h0 ⟨_, rfl, rfl⟩
theorem ok_is_number (D : Df K mg "is_number" s_is_number) (B : Bi mg) : Call1 P w K mg base CX0 lv_is_number "is_number" (sp_is_number K) := by
  refine fun_ok (k := 0) (N := ["thing"]) (ps := ["thing"]) D sc_is_number (fun ds0 P0 hd => by obtain ⟨d, rfl, rfl⟩ := hd; rfl) (fun _ _ _ _ _ _ us hl => match us, hl with | [_], _ => rfl) fun f cdv A outer s H E hr => ⟨_, 
    (pss_one (ps_ret (pe_and (pe_callB (cIsi (K := K)) (by rfl) B.isinstance (by decide +kernel) (pa_cons (pv 0) (pa_cons (pe_bltn (v := .ty "int") (by rfl) B.int (by decide +kernel) rfl) pa_nil))) (pe_one (pe_not (pe_callB (cIsi (K := K)) (by rfl) B.isinstance (by decide +kernel) (pa_cons (pv 0) (pa_cons (pe_bltn (v := .ty "bool") (by rfl) B.bool (by decide +kernel) rfl) pa_nil)))))))), fun ds0 P0 hd => ?_⟩
  obtain ⟨d, rfl, rfl⟩ := hd
  exact sj_retD (xd_and (xd_isi (xd_var rfl) kit_int) fun _ => (xd_not (xd_isi (xd_var rfl) kit_bool))) rfl
theorem sc_is_count : FnScope ["thing"] ["thing"] (defScope s_is_count) := ⟨rfl, rfl, rfl, by decide +kernel, rfl, by decide +kernel, by decide +kernel⟩
def isCnt : PyData → Bool
  | .int i => decide (0 ≤ i)
  | _ => false
abbrev lv_is_count : Nat := 2
def dom_is_count : List PyData → (PyData → Prop) → Prop := fun ds0 P0 => ∃ (d : PyData), ds0 = [d] ∧ P0 = (fun z => z = .bool (isCnt d))
abbrev sp_is_count (K : PySem.W.Frag) : Sp := SpD K dom_is_count
theorem xc_is_count {K : PySem.W.Frag} {tr : TA} {δ : List Sl} {d : PyData} (h0 : XAD K tr δ [d]) : XD K (tCall (sp_is_count K) [] E0 tr) δ (.bool (isCnt d)) := xd_callD h0 ⟨_, rfl, rfl⟩
theorem ok_is_count (D : Df K mg "is_count" s_is_count) (B : Bi mg) (C_is_number : Call1 P w K mg base CX0 lv_is_number "is_number" (sp_is_number K)) : Call1 P w K mg base CX0 lv_is_count "is_count" (sp_is_count K) := by
  refine fun_ok (k := 1) (N := ["thing"]) (ps := ["thing"]) D sc_is_count (fun ds0 P0 hd => by obtain ⟨d, rfl, rfl⟩ := hd; rfl) (fun _ _ _ _ _ _ us hl => match us, hl with | [_], _ => rfl) fun f cdv A outer s H E hr => ⟨_, 
    (pss_one (ps_ret (pe_and (pe_callC C_is_number (hr.mono (by decide)) (by rfl) (pa_cons (pv 0) pa_nil)) (pe_one (pe_cmpR op_ge (pv 0) pe_int (nomark _)))))), fun ds0 P0 hd => ?_⟩
  obtain ⟨d, rfl, rfl⟩ := hd
  cases d with
  | int i => exact sj_retD (xd_and (xc_is_number (xad_cons (xd_var rfl) xad_nil)) fun _ => (xd_op (xd_var rfl) xd_int rd_B0)) rfl
  | none => exact sj_retD (xd_andF ((xc_is_number (xad_cons (xd_var rfl) xad_nil)).is rfl)) rfl
  | bool i => exact sj_retD (xd_andF ((xc_is_number (xad_cons (xd_var rfl) xad_nil)).is rfl)) rfl
  | str i => exact sj_retD (xd_andF ((xc_is_number (xad_cons (xd_var rfl) xad_nil)).is rfl)) rfl
  | list i => exact sj_retD (xd_andF ((xc_is_number (xad_cons (xd_var rfl) xad_nil)).is rfl)) rfl
  | tuple i => exact sj_retD (xd_andF ((xc_is_number (xad_cons (xd_var rfl) xad_nil)).is rfl)) rfl
  | dict i => exact sj_retD (xd_andF ((xc_is_number (xad_cons (xd_var rfl) xad_nil)).is rfl)) rfl
theorem sc_is_below : FnScope ["thing", "many"] ["thing", "many"] (defScope s_is_below) := ⟨rfl, rfl, rfl, by decide +kernel, rfl, by decide +kernel, by decide +kernel⟩
def isBelow : PyData → Int → Bool
  | .int i, m => decide (0 ≤ i) && decide (i < m)
  | _, _ => false
abbrev lv_is_below : Nat := 3
def dom_is_below : List PyData → (PyData → Prop) → Prop := fun ds0 P0 => ∃ (d : PyData) (m : Int), ds0 = [d, .int m] ∧ P0 = (fun z => z = .bool (isBelow d m))
abbrev sp_is_below (K : PySem.W.Frag) : Sp := SpD K dom_is_below
theorem xc_is_below {K : PySem.W.Frag} {tr : TA} {δ : List Sl} {d : PyData} {m : Int} (h0 : XAD K tr δ [d, .int m]) : XD K (tCall (sp_is_below K) [] E0 tr) δ (.bool (isBelow d m)) := xd_callD h0 ⟨_, _, rfl, rfl⟩
theorem ok_is_below (D : Df K mg "is_below" s_is_below) (B : Bi mg) (C_is_count : Call1 P w K mg base CX0 lv_is_count "is_count" (sp_is_count K)) : Call1 P w K mg base CX0 lv_is_below "is_below" (sp_is_below K) := by
  refine fun_ok (k := 2) (N := ["thing", "many"]) (ps := ["thing", "many"]) D sc_is_below (fun ds0 P0 hd => by obtain ⟨d, m, rfl, rfl⟩ := hd; rfl) (fun _ _ _ _ _ _ us hl => match us, hl with | [_, _], _ => rfl) fun f cdv A outer s H E hr => ⟨_, 
    (pss_one (ps_ret (pe_and (pe_callC C_is_count (hr.mono (by decide)) (by rfl) (pa_cons (pv 0) pa_nil)) (pe_one (pe_cmpR op_lt (pv 0) (pv 1) (nomark _)))))), fun ds0 P0 hd => ?_⟩
  obtain ⟨d, m, rfl, rfl⟩ := hd
  cases d with
  | int i => exact sj_retD (xd_and (xc_is_count (xad_cons (xd_var rfl) xad_nil)) fun _ => (xd_op (xd_var rfl) (xd_var rfl) rd_B0)) rfl
  | none => exact sj_retD (xd_andF ((xc_is_count (xad_cons (xd_var rfl) xad_nil)).is rfl)) rfl
  | bool i => exact sj_retD (xd_andF ((xc_is_count (xad_cons (xd_var rfl) xad_nil)).is rfl)) rfl
  | str i => exact sj_retD (xd_andF ((xc_is_count (xad_cons (xd_var rfl) xad_nil)).is rfl)) rfl
  | list i => exact sj_retD (xd_andF ((xc_is_count (xad_cons (xd_var rfl) xad_nil)).is rfl)) rfl
  | tuple i => exact sj_retD (xd_andF ((xc_is_count (xad_cons (xd_var rfl) xad_nil)).is rfl)) rfl
  | dict i => exact sj_retD (xd_andF ((xc_is_count (xad_cons (xd_var rfl) xad_nil)).is rfl)) rfl
theorem sc_is_tuple_of : FnScope ["thing", "size"] ["thing", "size"] (defScope s_is_tuple_of) := ⟨rfl, rfl, rfl, by decide +kernel, rfl, by decide +kernel, by decide +kernel⟩
abbrev lv_is_tuple_of : Nat := 1
def dom_is_tuple_of : List PyData → (PyData → Prop) → Prop := fun ds0 P0 => ∃ (ds : List PyData) (k : Int), ds0 = [.tuple ds, .int k] ∧ P0 = (fun z => z = .bool (decide ((ds.length : Int) = k)))
abbrev sp_is_tuple_of (K : PySem.W.Frag) : Sp := SpD K dom_is_tuple_of
theorem xc_is_tuple_of {K : PySem.W.Frag} {tr : TA} {δ : List Sl} {ds : List PyData} {k : Int} (h0 : XAD K tr δ [.tuple ds, .int k]) : XD K (tCall (sp_is_tuple_of K) [] E0 tr) δ (.bool (decide ((ds.length : Int) = k))) := xd_callD h0 ⟨_, _, rfl, rfl⟩
theorem ok_is_tuple_of (D : Df K mg "is_tuple_of" s_is_tuple_of) (B : Bi mg) : Call1 P w K mg base CX0 lv_is_tuple_of "is_tuple_of" (sp_is_tuple_of K) := by
  refine fun_ok (k := 0) (N := ["thing", "size"]) (ps := ["thing", "size"]) D sc_is_tuple_of (fun ds0 P0 hd => by obtain ⟨ds, k, rfl, rfl⟩ := hd; rfl) (fun _ _ _ _ _ _ us hl => match us, hl with | [_, _], _ => rfl) fun f cdv A outer s H E hr => ⟨_, 
    (pss_one (ps_ret (pe_and (pe_callB (cIsi (K := K)) (by rfl) B.isinstance (by decide +kernel) (pa_cons (pv 0) (pa_cons (pe_bltn (v := .ty "tuple") (by rfl) B.tuple (by decide +kernel) rfl) pa_nil))) (pe_one (pe_cmpR op_eq (pe_callB (cLen (K := K)) (by rfl) B.len PySem.boot_len (pa_cons (pv 0) pa_nil)) (pv 1) (nomark _)))))), fun ds0 P0 hd => ?_⟩
  obtain ⟨ds, k, rfl, rfl⟩ := hd
  exact sj_retD (xd_and (xd_isi (xd_var rfl) kit_tuple) fun _ => (xd_op (xd_cb (xad_cons (xd_var rfl) xad_nil) rc_lenT) (xd_var rfl) rd_eqI)) rfl
theorem sc_ascends : FnScope ["thing", "near", "far"] ["thing"] (defScope s_ascends) := ⟨rfl, rfl, rfl, by decide +kernel, rfl, by decide +kernel, by decide +kernel⟩
def asc (r : List Int) : Bool := (r.zip (r.drop 1)).all fun x => decide (x.1 < x.2)
abbrev lv_ascends : Nat := 1
def dom_ascends : List PyData → (PyData → Prop) → Prop := fun ds0 P0 => ∃ (r : List Int), ds0 = [rowD r] ∧ (r.length ≤ 1000) ∧ P0 = (fun z => z = .bool (asc r))
abbrev sp_ascends (K : PySem.W.Frag) : Sp := SpD K dom_ascends
theorem xc_ascends {K : PySem.W.Frag} {tr : TA} {δ : List Sl} {r : List Int} (h0 : XAD K tr δ [rowD r]) (h1 : r.length ≤ 1000) : XD K (tCall (sp_ascends K) [] E0 tr) δ (.bool (asc r)) := xd_callD h0 ⟨_, rfl, h1, rfl⟩
theorem ok_ascends (D : Df K mg "ascends" s_ascends) (B : Bi mg) : Call1 P w K mg base CX0 lv_ascends "ascends" (sp_ascends K) := by
  refine fun_ok (k := 0) (N := ["thing", "near", "far"]) (ps := ["thing"]) D sc_ascends (fun ds0 P0 hd => by obtain ⟨r, rfl, h1, rfl⟩ := hd; rfl) (fun _ _ _ _ _ _ us hl => match us, hl with | [_], _ => rfl) fun f cdv A outer s H E hr => ⟨_, 
    (pss_one (ps_ret (pe_callB (cAll (K := K) rfl) (by rfl) B.all (by decide +kernel) (pa_cons (pe_lc (own := [("near", 1), ("far", 2)]) (g := (gTup K 2 (gCons (gName 1) (gCons (gName 2) gNil)))) (tt := tYes) rfl sc_ascends.nd (piZip (K := K) (by rfl) B.zip (pa_cons (pv 0) (pa_cons (pe_slice (slT (K := K)) (pv 0) (po_some pe_int) po_none) pa_nil))) (blkOk_by (N := ["thing", "near", "far"]) (sc := defScope s_ascends) (by decide +kernel)) (fun _ _ _ _ _ => (pgTup (K := K) rfl (pgs_cons (pgN (i := 1) sc_ascends.nd rfl (by first | exact Or.inl rfl | exact Or.inr rfl) (by first | exact Or.inl rfl | exact Or.inr rfl)) (pgs_cons (pgN (i := 2) sc_ascends.nd rfl (by first | exact Or.inl rfl | exact Or.inr rfl) (by first | exact Or.inl rfl | exact Or.inr rfl)) pgs_nil)))) (fun _ _ _ _ _ => pts_nil) (fun _ _ _ _ _ => (pe_cmpR op_lt (pv 1) (pv 2) (nomark _)))) pa_nil)))), fun ds0 P0 hd => ?_⟩
  obtain ⟨r, rfl, h1, rfl⟩ := hd
  refine sj_retD (xd_cb (xad_cons (xd_lcMap (js := [1, 2]) ((xid_zipT (xad_cons (xd_var rfl) (xad_cons (xd_slE (xd_var rfl) (xo_some xd_int) xo_none) xad_nil))).is zipD_map) (by simp) ?_ (fun x hx => xg_tup2) (fun x hx => (xd_op (xd_var rfl) (xd_var rfl) rd_B0))) xad_nil) rc_allE) ?_
  · simp; omega
  · rw [show (1 : Int) = ((1 : Nat) : Int) from rfl, cut_drop]
    rfl
theorem sc_is_number_set : FnScope ["thing", "many", "part"] ["thing", "many"] (defScope s_is_number_set) := ⟨rfl, rfl, rfl, by decide +kernel, rfl, by decide +kernel, by decide +kernel⟩
theorem all_below {r : List Int} {m : Nat} (h : ∀ x ∈ r, 0 ≤ x ∧ x < m) : r.all (fun x => isBelow (.int x) m) = true := by
  rw [List.all_eq_true]
  intro x hx
  simp [isBelow, h x hx]
abbrev lv_is_number_set : Nat := 4
def dom_is_number_set : List PyData → (PyData → Prop) → Prop := fun ds0 P0 => ∃ (r : List Int) (m : Nat), ds0 = [rowD r, .int m] ∧ (r.length ≤ 1000) ∧ (∀ x ∈ r, 0 ≤ x ∧ x < m) ∧ (asc r = true) ∧ P0 = (fun z => z = .bool true)
abbrev sp_is_number_set (K : PySem.W.Frag) : Sp := SpD K dom_is_number_set
theorem xc_is_number_set {K : PySem.W.Frag} {tr : TA} {δ : List Sl} {r : List Int} {m : Nat} (h0 : XAD K tr δ [rowD r, .int m]) (h1 : r.length ≤ 1000) (h2 : ∀ x ∈ r, 0 ≤ x ∧ x < m) (h3 : asc r = true) : XD K (tCall (sp_is_number_set K) [] E0 tr) δ (.bool true) := xd_callD h0 ⟨_, _, rfl, h1, h2, h3, rfl⟩
theorem ok_is_number_set (D : Df K mg "is_number_set" s_is_number_set) (B : Bi mg) (C_ascends : Call1 P w K mg base CX0 lv_ascends "ascends" (sp_ascends K)) (C_is_below : Call1 P w K mg base CX0 lv_is_below "is_below" (sp_is_below K)) : Call1 P w K mg base CX0 lv_is_number_set "is_number_set" (sp_is_number_set K) := by
  refine fun_ok (k := 3) (N := ["thing", "many", "part"]) (ps := ["thing", "many"]) D sc_is_number_set (fun ds0 P0 hd => by obtain ⟨r, m, rfl, h1, h2, h3, rfl⟩ := hd; rfl) (fun _ _ _ _ _ _ us hl => match us, hl with | [_, _], _ => rfl) fun f cdv A outer s H E hr => ⟨_, 
    (pss_cons (ps_if (PW.pt (pw_or (pt_not (pt_val (pe_callB (cIsi (K := K)) (by rfl) B.isinstance (by decide +kernel) (pa_cons (pv 0) (pa_cons (pe_bltn (v := .ty "tuple") (by rfl) B.tuple (by decide +kernel) rfl) pa_nil))))) (pw_or1 (pt_not (pt_val (pe_callB (cAll (K := K) rfl) (by rfl) B.all (by decide +kernel) (pa_cons (pe_lc (own := [("part", 2)]) (g := (gName 2)) (tt := tYes) rfl sc_is_number_set.nd (piTup (K := K) (pv 0)) (blkOk_by (N := ["thing", "many", "part"]) (sc := defScope s_is_number_set) (by decide +kernel)) (fun _ _ _ _ _ => (pgN (i := 2) sc_is_number_set.nd rfl (by first | exact Or.inl rfl | exact Or.inr rfl) (by first | exact Or.inl rfl | exact Or.inr rfl))) (fun _ _ _ _ _ => pts_nil) (fun _ _ _ _ _ => (pe_callC C_is_below (hr.mono (by decide)) (by rfl) (pa_cons (pv 2) (pa_cons (pv 1) pa_nil))))) pa_nil))))))) (pss_one (ps_ret pe_bl)) pss_nil)
      (pss_one (ps_ret (pe_callC C_ascends (hr.mono (by decide)) (by rfl) (pa_cons (pv 0) pa_nil))))), fun ds0 P0 hd => ?_⟩
  obtain ⟨r, m, rfl, h1, h2, h3, rfl⟩ := hd
  refine sj_seq (sj_ifF (XT.is (xt_or (xt_not (xt_val (xd_isi (xd_var rfl) kit_tuple))) fun _ => (xt_not (xt_val (xd_cb (xad_cons (xd_lcMap (js := [2]) (xid_tup (xd_var rfl)) (by simp) ?_ (fun x hx => xg_name) (fun x hx => (xc_is_below (xad_cons (xd_var rfl) (xad_cons (xd_var rfl) xad_nil))))) xad_nil) rc_allE)))) ?_) (sj_next ?_))
  · omega
  · rw [all_below h2]; rfl
  · refine sj_retD (xc_ascends (xad_cons (xd_var rfl) xad_nil) ?_) ?_
    · exact h1
    · rw [h3]
theorem sc_is_prime : FnScope ["thing"] ["thing"] (defScope s_is_prime) := ⟨rfl, rfl, rfl, by decide +kernel, rfl, by decide +kernel, by decide +kernel⟩
abbrev lv_is_prime : Nat := 2
def dom_is_prime : List PyData → (PyData → Prop) → Prop := fun ds0 P0 => ∃ (p : Nat), ds0 = [.int p] ∧ (p = 2 ∨ p = 3) ∧ P0 = (fun z => z = .bool true)
abbrev sp_is_prime (K : PySem.W.Frag) : Sp := SpD K dom_is_prime
theorem xc_is_prime {K : PySem.W.Frag} {tr : TA} {δ : List Sl} {p : Nat} (h0 : XAD K tr δ [.int p]) (hp : p = 2 ∨ p = 3) : XD K (tCall (sp_is_prime K) [] E0 tr) δ (.bool true) := xd_callD h0 ⟨_, rfl, hp, rfl⟩
theorem ok_is_prime (D : Df K mg "is_prime" s_is_prime) (B : Bi mg) {a : Addr} (PR : PrOk K mg a) (C_is_number : Call1 P w K mg base CX0 lv_is_number "is_number" (sp_is_number K)) : Call1 P w K mg base CX0 lv_is_prime "is_prime" (sp_is_prime K) := by
  refine fun_ok (k := 1) (N := ["thing"]) (ps := ["thing"]) D sc_is_prime (fun ds0 P0 hd => by obtain ⟨p, rfl, hp, rfl⟩ := hd; rfl) (fun _ _ _ _ _ _ us hl => match us, hl with | [_], _ => rfl) fun f cdv A outer s H E hr => ⟨_, 
    (pss_one (ps_ret (pe_and (pe_callC C_is_number (hr.mono (by decide)) (by rfl) (pa_cons (pv 0) pa_nil)) (pe_one (pe_cmpR (opIn (K := K)) (pv 0) (pe_glob (v := .ref a) (by rfl) PR.1 rfl) (by rfl)))))), fun ds0 P0 hd => ?_⟩
  obtain ⟨p, rfl, hp, rfl⟩ := hd
  refine sj_retD (xd_and (xc_is_number (xad_cons (xd_var rfl) xad_nil)) fun _ => (xd_prim PR (xd_var rfl))) ?_
  rcases hp with rfl | rfl <;> rfl
theorem sc_is_row : FnScope ["p", "thing", "own"] ["p", "thing"] (defScope s_is_row) := ⟨rfl, rfl, rfl, by decide +kernel, rfl, by decide +kernel, by decide +kernel⟩
def isRow (p : Int) : PyData → Bool
  | .tuple ds => ds.all fun x => isBelow x p
  | _ => false
abbrev lv_is_row : Nat := 4
def dom_is_row : List PyData → (PyData → Prop) → Prop := fun ds0 P0 => ∃ (p : Int) (d : PyData), ds0 = [.int p, d] ∧ (∀ ds, d = .tuple ds → ds.length ≤ 1000) ∧ P0 = (fun z => z = .bool (isRow p d))
abbrev sp_is_row (K : PySem.W.Frag) : Sp := SpD K dom_is_row
theorem xc_is_row {K : PySem.W.Frag} {tr : TA} {δ : List Sl} {p : Int} {d : PyData} (h0 : XAD K tr δ [.int p, d]) (h1 : ∀ ds, d = .tuple ds → ds.length ≤ 1000) : XD K (tCall (sp_is_row K) [] E0 tr) δ (.bool (isRow p d)) := xd_callD h0 ⟨_, _, rfl, h1, rfl⟩
theorem ok_is_row (D : Df K mg "is_row" s_is_row) (B : Bi mg) (C_is_below : Call1 P w K mg base CX0 lv_is_below "is_below" (sp_is_below K)) : Call1 P w K mg base CX0 lv_is_row "is_row" (sp_is_row K) := by
  refine fun_ok (k := 3) (N := ["p", "thing", "own"]) (ps := ["p", "thing"]) D sc_is_row (fun ds0 P0 hd => by obtain ⟨p, d, rfl, h1, rfl⟩ := hd; rfl) (fun _ _ _ _ _ _ us hl => match us, hl with | [_, _], _ => rfl) fun f cdv A outer s H E hr => ⟨_, 
    (pss_one (ps_ret (pe_and (pe_callB (cIsi (K := K)) (by rfl) B.isinstance (by decide +kernel) (pa_cons (pv 1) (pa_cons (pe_bltn (v := .ty "tuple") (by rfl) B.tuple (by decide +kernel) rfl) pa_nil))) (pe_one (pe_callB (cAll (K := K) rfl) (by rfl) B.all (by decide +kernel) (pa_cons (pe_lc (own := [("own", 2)]) (g := (gName 2)) (tt := tYes) rfl sc_is_row.nd (piSeq (K := K) (pv 1)) (blkOk_by (N := ["p", "thing", "own"]) (sc := defScope s_is_row) (by decide +kernel)) (fun _ _ _ _ _ => (pgN (i := 2) sc_is_row.nd rfl (by first | exact Or.inl rfl | exact Or.inr rfl) (by first | exact Or.inl rfl | exact Or.inr rfl))) (fun _ _ _ _ _ => pts_nil) (fun _ _ _ _ _ => (pe_callC C_is_below (hr.mono (by decide)) (by rfl) (pa_cons (pv 2) (pa_cons (pv 0) pa_nil))))) pa_nil)))))), fun ds0 P0 hd => ?_⟩
  obtain ⟨p, d, rfl, h1, rfl⟩ := hd
  cases d with
  | tuple ds =>
    have h1 := h1 ds rfl
    refine sj_retD (xd_and (xd_isi (xd_var rfl) kit_tuple) fun _ => (xd_cb (xad_cons (xd_lcMap (xs := ds) (A := fun z => z) (js := [2]) ((xid_seqT (xd_var rfl)).is (List.map_id' ds).symm) (by simp) ?_ (fun x hx => xg_name) (fun x hx => (xc_is_below (xad_cons (xd_var rfl) (xad_cons (xd_var rfl) xad_nil))))) xad_nil) rc_allE)) rfl
    omega
  | none => exact sj_retD (xd_andF ((xd_isi (xd_var rfl) kit_tuple))) rfl
  | bool i => exact sj_retD (xd_andF ((xd_isi (xd_var rfl) kit_tuple))) rfl
  | str i => exact sj_retD (xd_andF ((xd_isi (xd_var rfl) kit_tuple))) rfl
  | list i => exact sj_retD (xd_andF ((xd_isi (xd_var rfl) kit_tuple))) rfl
  | int i => exact sj_retD (xd_andF ((xd_isi (xd_var rfl) kit_tuple))) rfl
  | dict i => exact sj_retD (xd_andF ((xd_isi (xd_var rfl) kit_tuple))) rfl
end
end Dry

set_option Elab.async false
set_option linter.all false
set_option maxRecDepth 100000
set_option maxHeartbeats 4000000
namespace Dry
open PySem PySem.Spec PyProof.Rows L2 RZ
section
variable {P : Program} {w : World} {K : PySem.W.Frag} {mg : Str → Option Value} {base : Heap}
theorem pp {p : Nat} (h : p = 2 ∨ p = 3) : (0 : Int) < (p : Int) := by omega
def Dig (p : Nat) (r : List Int) : Prop := ∀ x ∈ r, 0 ≤ x ∧ x < (p : Int)
theorem Dig.getD {p : Nat} {r : List Int} (h : Dig p r) (hp : 0 < p) (i : Nat) : 0 ≤ r.getD i 0 ∧ r.getD i 0 < (p : Int) := by
  rw [List.getD_eq_getElem?_getD]
  cases e : r[i]? with
  | none => exact ⟨by simp, by simp; omega⟩
  | some x => exact h x (List.mem_of_getElem? e)
theorem cmul_l {p : Nat} {i j : Int} (h : 0 ≤ i ∧ i < (p : Int)) (hp : p = 2 ∨ p = 3) : CMul i j := .inl ⟨by omega, by omega⟩
theorem cmul_r {p : Nat} {i j : Int} (h : 0 ≤ j ∧ j < (p : Int)) (hp : p = 2 ∨ p = 3) : CMul i j := .inr ⟨by omega, by omega⟩
theorem sc_inverse_digit : FnScope ["p", "digit", "found", "own"] ["p", "digit"] (defScope s_inverse_digit) := ⟨rfl, rfl, rfl, by decide +kernel, rfl, by decide +kernel, by decide +kernel⟩
abbrev lv_inverse_digit : Nat := 1
def dom_inverse_digit : List PyData → (PyData → Prop) → Prop := fun ds0 P0 => ∃ (p : Nat) (d : Int), ds0 = [.int p, .int d] ∧ (p = 2 ∨ p = 3) ∧ (0 < d ∧ d < (p : Int)) ∧ P0 = (fun z => z = .int d)
abbrev sp_inverse_digit (K : PySem.W.Frag) : Sp := SpD K dom_inverse_digit
theorem xc_inverse_digit {K : PySem.W.Frag} {tr : TA} {δ : List Sl} {p : Nat} {d : Int} (h0 : XAD K tr δ [.int p, .int d]) (hp : p = 2 ∨ p = 3) (hd0 : 0 < d ∧ d < (p : Int)) : XD K (tCall (sp_inverse_digit K) [] E0 tr) δ (.int d) := xd_callD h0 ⟨_, _, rfl, hp, hd0, rfl⟩
theorem ok_inverse_digit (D : Df K mg "inverse_digit" s_inverse_digit) (B : Bi mg) : Call1 P w K mg base CX0 lv_inverse_digit "inverse_digit" (sp_inverse_digit K) := by
  refine fun_ok (k := 0) (N := ["p", "digit", "found", "own"]) (ps := ["p", "digit"]) D sc_inverse_digit (fun ds0 P0 hd => by obtain ⟨p, d, rfl, hp, hd0, rfl⟩ := hd; rfl) (fun _ _ _ _ _ _ us hl => match us, hl with | [_, _], _ => rfl) fun f cdv A outer s H E hr => ⟨_, 
    (pss_cons (ps_setLc (i := 2) (own := [("own", 3)]) (g := (gName 3)) rfl sc_inverse_digit.nd rfl rfl (sw_true rfl rfl rfl (by decide +kernel)) (pi_range1 (by rfl) B.range (pa_cons (pv 0) pa_nil)) (blkOk_by (N := ["p", "digit", "found", "own"]) (sc := defScope s_inverse_digit) (by decide +kernel)) (fun _ _ _ _ _ => (pgN (i := 3) sc_inverse_digit.nd rfl (by first | exact Or.inl rfl | exact Or.inr rfl) (by first | exact Or.inl rfl | exact Or.inr rfl))) (fun _ _ _ _ _ => (pts_one (pt_cmpR op_eq (pe_op op_mod (pe_op op_mul (pv 3) (pv 1)) (pv 0)) pe_int (nomark _)))) (fun _ _ _ _ _ => (pv 3)))
      (pss_cons (ps_if (pt_cmpR (opEqD (K := K) hr.units) (pv 2) (pe_lst pa_nil) (nomark _)) (pss_one ps_never) pss_nil)
      (pss_one (ps_ret (pe_ix (ixL (K := K)) (pv 2) pe_int (fun _ _ => rfl)))))), fun ds0 P0 hd => ?_⟩
  obtain ⟨p, d, rfl, hp, hd0, rfl⟩ := hd
  have hc : (p = 2 ∧ d = 1) ∨ (p = 3 ∧ d = 1) ∨ (p = 3 ∧ d = 2) := by omega
  refine sj_seq (sj_asgD (xd_lcFil (js := [3]) (xid_rangeN (xad_cons (xd_var rfl) xad_nil) ?_) (by simp) ?_ (fun x hx => xg_name) (fun x hx => (xt_test (xd_op (xd_op (xd_op (xd_var rfl) (xd_var rfl) (rd_I ?_)) (xd_var rfl) (rd_I ?_)) xd_int rd_eqI))) (fun x hx hb => (xd_var rfl))) ?_)
  · omega
  · simp; omega
  · exact .inr ⟨by omega, by omega⟩
  · exact pp hp
  · refine sj_seq (sj_ifF (XT.is (xt_test (xd_op (xd_var rfl) (xd_lst xad_nil (by simp)) (rd_eqD ?_ ?_))) ?_) (sj_next ?_))
    · refine (sh_list (k := 0) (sh_map fun _ _ => sh_int)).ok
    · exact sh_nilL.ok
    · rw [eqv_nilL]
      rcases hc with ⟨rfl, rfl⟩ | ⟨rfl, rfl⟩ | ⟨rfl, rfl⟩ <;> rfl
    · refine sj_retD (xd_op (xd_var rfl) xd_int (rd_ixL (d := .int d) ?_)) rfl
      rcases hc with ⟨rfl, rfl⟩ | ⟨rfl, rfl⟩ | ⟨rfl, rfl⟩ <;> rfl
theorem sc_unit_row : FnScope ["many", "place", "own"] ["many", "place"] (defScope s_unit_row) := ⟨rfl, rfl, rfl, by decide +kernel, rfl, by decide +kernel, by decide +kernel⟩
def unitRow (m j : Nat) : List Int := (List.range m).map fun i => if i = j then 1 else 0
abbrev lv_unit_row : Nat := 1
def dom_unit_row : List PyData → (PyData → Prop) → Prop := fun ds0 P0 => ∃ (m j : Nat), ds0 = [.int m, .int j] ∧ (j < m) ∧ (m ≤ 1000) ∧ P0 = (fun z => z = rowD (unitRow m j))
abbrev sp_unit_row (K : PySem.W.Frag) : Sp := SpD K dom_unit_row
theorem xc_unit_row {K : PySem.W.Frag} {tr : TA} {δ : List Sl} {m j : Nat} (h0 : XAD K tr δ [.int m, .int j]) (h1 : j < m) (h2 : m ≤ 1000) : XD K (tCall (sp_unit_row K) [] E0 tr) δ (rowD (unitRow m j)) := xd_callD h0 ⟨_, _, rfl, h1, h2, rfl⟩
theorem ok_unit_row (D : Df K mg "unit_row" s_unit_row) (B : Bi mg) : Call1 P w K mg base CX0 lv_unit_row "unit_row" (sp_unit_row K) := by
  refine fun_ok (k := 0) (N := ["many", "place", "own"]) (ps := ["many", "place"]) D sc_unit_row (fun ds0 P0 hd => by obtain ⟨m, j, rfl, h1, h2, rfl⟩ := hd; rfl) (fun _ _ _ _ _ _ us hl => match us, hl with | [_, _], _ => rfl) fun f cdv A outer s H E hr => ⟨_, 
    (pss_cons (ps_if (pt_cmpR op_ge (pv 1) (pv 0) (nomark _)) (pss_one ps_never) pss_nil)
      (pss_one (ps_ret (pe_callTy (cTuple (K := K)) (by rfl) B.tuple (by decide +kernel) (pa_cons (pe_lc (own := [("own", 2)]) (g := (gName 2)) (tt := tYes) rfl sc_unit_row.nd (pi_range1 (by rfl) B.range (pa_cons (pv 0) pa_nil)) (blkOk_by (N := ["many", "place", "own"]) (sc := defScope s_unit_row) (by decide +kernel)) (fun _ _ _ _ _ => (pgN (i := 2) sc_unit_row.nd rfl (by first | exact Or.inl rfl | exact Or.inr rfl) (by first | exact Or.inl rfl | exact Or.inr rfl))) (fun _ _ _ _ _ => pts_nil) (fun _ _ _ _ _ => (pe_callTy call_int1 (by rfl) B.int (by decide +kernel) (pa_cons (pe_cmpR op_eq (pv 2) (pv 1) (nomark _)) pa_nil)))) pa_nil))))), fun ds0 P0 hd => ?_⟩
  obtain ⟨m, j, rfl, h1, h2, rfl⟩ := hd
  refine sj_seq (sj_ifF (XT.is (xt_test (xd_op (xd_var rfl) (xd_var rfl) rd_B0)) ?_) (sj_next ?_))
  · simp; omega
  · refine sj_retD (xd_cb (xad_cons (xd_lcMap (js := [2]) (xid_rangeN (xad_cons (xd_var rfl) xad_nil) ?_) (by simp) ?_ (fun x hx => xg_name) (fun x hx => (xd_cb (xad_cons (xd_op (xd_var rfl) (xd_var rfl) rd_eqI) xad_nil) rc_intB))) xad_nil) (rc_tupE (enc := PyData.int))) ?_
    · omega
    · simp; omega
    · congr 2
      unfold unitRow
      apply List.map_congr_left
      intro i hi
      by_cases h : i = j
      · simp [h]
      · rw [if_neg h, if_neg (by simp; omega)]
theorem sc_fit_lengths : FnScope ["one", "other"] ["one", "other"] (defScope s_fit_lengths) := ⟨rfl, rfl, rfl, by decide +kernel, rfl, by decide +kernel, by decide +kernel⟩
abbrev lv_fit_lengths : Nat := 1
def dom_fit_lengths : List PyData → (PyData → Prop) → Prop := fun ds0 P0 => ∃ (a b : List PyData), ds0 = [.tuple a, .tuple b] ∧ (a.length = b.length) ∧ P0 = (fun z => z = .none)
abbrev sp_fit_lengths (K : PySem.W.Frag) : Sp := SpD K dom_fit_lengths
theorem xc_fit_lengths {K : PySem.W.Frag} {tr : TA} {δ : List Sl} {a b : List PyData} (h0 : XAD K tr δ [.tuple a, .tuple b]) (h1 : a.length = b.length) : XD K (tCall (sp_fit_lengths K) [] E0 tr) δ (.none) := xd_callD h0 ⟨_, _, rfl, h1, rfl⟩
theorem ok_fit_lengths (D : Df K mg "fit_lengths" s_fit_lengths) (B : Bi mg) : Call1 P w K mg base CX0 lv_fit_lengths "fit_lengths" (sp_fit_lengths K) := by
  refine fun_ok (k := 0) (N := ["one", "other"]) (ps := ["one", "other"]) D sc_fit_lengths (fun ds0 P0 hd => by obtain ⟨a, b, rfl, h1, rfl⟩ := hd; rfl) (fun _ _ _ _ _ _ us hl => match us, hl with | [_, _], _ => rfl) fun f cdv A outer s H E hr => ⟨_, 
    (pss_one (ps_if (pt_cmpR op_ne (pe_callB (cLen (K := K)) (by rfl) B.len PySem.boot_len (pa_cons (pv 0) pa_nil)) (pe_callB (cLen (K := K)) (by rfl) B.len PySem.boot_len (pa_cons (pv 1) pa_nil)) (nomark _)) (pss_one ps_never) pss_nil)), fun ds0 P0 hd => ?_⟩
  obtain ⟨a, b, rfl, h1, rfl⟩ := hd
  exact sj_ifF (XT.is (xt_test (xd_op (xd_cb (xad_cons (xd_var rfl) xad_nil) rc_lenT) (xd_cb (xad_cons (xd_var rfl) xad_nil) rc_lenT) rd_neI)) (by simp [h1])) (sj_next rfl)
theorem sc_row_less : FnScope ["p", "one", "other", "near", "far"] ["p", "one", "other"] (defScope s_row_less) := ⟨rfl, rfl, rfl, by decide +kernel, rfl, by decide +kernel, by decide +kernel⟩
def rowLess (p : Nat) (a b : List Int) : List Int := (a.zip b).map fun x => (x.1 - x.2) % (p : Int)
abbrev lv_row_less : Nat := 2
def dom_row_less : List PyData → (PyData → Prop) → Prop := fun ds0 P0 => ∃ (p : Nat) (a b : List Int), ds0 = [.int p, rowD a, rowD b] ∧ (p = 2 ∨ p = 3) ∧ (a.length = b.length) ∧ (a.length ≤ 1000) ∧ P0 = (fun z => z = rowD (rowLess p a b))
abbrev sp_row_less (K : PySem.W.Frag) : Sp := SpD K dom_row_less
theorem xc_row_less {K : PySem.W.Frag} {tr : TA} {δ : List Sl} {p : Nat} {a b : List Int} (h0 : XAD K tr δ [.int p, rowD a, rowD b]) (hp : p = 2 ∨ p = 3) (h1 : a.length = b.length) (h2 : a.length ≤ 1000) : XD K (tCall (sp_row_less K) [] E0 tr) δ (rowD (rowLess p a b)) := xd_callD h0 ⟨_, _, _, rfl, hp, h1, h2, rfl⟩
theorem ok_row_less (D : Df K mg "row_less" s_row_less) (B : Bi mg) (C_fit_lengths : Call1 P w K mg base CX0 lv_fit_lengths "fit_lengths" (sp_fit_lengths K)) : Call1 P w K mg base CX0 lv_row_less "row_less" (sp_row_less K) := by
  refine fun_ok (k := 1) (N := ["p", "one", "other", "near", "far"]) (ps := ["p", "one", "other"]) D sc_row_less (fun ds0 P0 hd => by obtain ⟨p, a, b, rfl, hp, h1, h2, rfl⟩ := hd; rfl) (fun _ _ _ _ _ _ us hl => match us, hl with | [_, _, _], _ => rfl) fun f cdv A outer s H E hr => ⟨_, 
    (pss_cons (ps_expr (pe_callC C_fit_lengths (hr.mono (by decide)) (by rfl) (pa_cons (pv 1) (pa_cons (pv 2) pa_nil))))
      (pss_one (ps_ret (pe_callTy (cTuple (K := K)) (by rfl) B.tuple (by decide +kernel) (pa_cons (pe_lc (own := [("near", 3), ("far", 4)]) (g := (gTup K 2 (gCons (gName 3) (gCons (gName 4) gNil)))) (tt := tYes) rfl sc_row_less.nd (piZip (K := K) (by rfl) B.zip (pa_cons (pv 1) (pa_cons (pv 2) pa_nil))) (blkOk_by (N := ["p", "one", "other", "near", "far"]) (sc := defScope s_row_less) (by decide +kernel)) (fun _ _ _ _ _ => (pgTup (K := K) rfl (pgs_cons (pgN (i := 3) sc_row_less.nd rfl (by first | exact Or.inl rfl | exact Or.inr rfl) (by first | exact Or.inl rfl | exact Or.inr rfl)) (pgs_cons (pgN (i := 4) sc_row_less.nd rfl (by first | exact Or.inl rfl | exact Or.inr rfl) (by first | exact Or.inl rfl | exact Or.inr rfl)) pgs_nil)))) (fun _ _ _ _ _ => pts_nil) (fun _ _ _ _ _ => (pe_op op_mod (pe_op op_sub (pv 3) (pv 4)) (pv 0)))) pa_nil))))), fun ds0 P0 hd => ?_⟩
  obtain ⟨p, a, b, rfl, hp, h1, h2, rfl⟩ := hd
  refine sj_seq (sj_drop ((xc_fit_lengths (xad_cons (xd_var rfl) (xad_cons (xd_var rfl) xad_nil)) ?_) _) ?_)
  · simp [h1]
  · refine sj_retD (xd_cb (xad_cons (xd_lcMap (js := [3, 4]) ((xid_zipT (xad_cons (xd_var rfl) (xad_cons (xd_var rfl) xad_nil))).is zipD_map) (by simp) ?_ (fun x hx => xg_tup2) (fun x hx => (xd_op (xd_op (xd_var rfl) (xd_var rfl) rd_I0) (xd_var rfl) (rd_I ?_)))) xad_nil) (rc_tupE (enc := PyData.int))) ?_
    · simp; omega
    · exact pp hp
    · rfl
theorem sc_row_times : FnScope ["p", "digit", "row", "own"] ["p", "digit", "row"] (defScope s_row_times) := ⟨rfl, rfl, rfl, by decide +kernel, rfl, by decide +kernel, by decide +kernel⟩
def rowTimes (p : Nat) (d : Int) (a : List Int) : List Int := a.map fun x => d * x % (p : Int)
abbrev lv_row_times : Nat := 1
def dom_row_times : List PyData → (PyData → Prop) → Prop := fun ds0 P0 => ∃ (p : Nat) (d : Int) (a : List Int), ds0 = [.int p, .int d, rowD a] ∧ (p = 2 ∨ p = 3) ∧ (0 ≤ d ∧ d < (p : Int)) ∧ (a.length ≤ 1000) ∧ P0 = (fun z => z = rowD (rowTimes p d a))
abbrev sp_row_times (K : PySem.W.Frag) : Sp := SpD K dom_row_times
theorem xc_row_times {K : PySem.W.Frag} {tr : TA} {δ : List Sl} {p : Nat} {d : Int} {a : List Int} (h0 : XAD K tr δ [.int p, .int d, rowD a]) (hp : p = 2 ∨ p = 3) (hd0 : 0 ≤ d ∧ d < (p : Int)) (h2 : a.length ≤ 1000) : XD K (tCall (sp_row_times K) [] E0 tr) δ (rowD (rowTimes p d a)) := xd_callD h0 ⟨_, _, _, rfl, hp, hd0, h2, rfl⟩
theorem ok_row_times (D : Df K mg "row_times" s_row_times) (B : Bi mg) : Call1 P w K mg base CX0 lv_row_times "row_times" (sp_row_times K) := by
  refine fun_ok (k := 0) (N := ["p", "digit", "row", "own"]) (ps := ["p", "digit", "row"]) D sc_row_times (fun ds0 P0 hd => by obtain ⟨p, d, a, rfl, hp, hd0, h2, rfl⟩ := hd; rfl) (fun _ _ _ _ _ _ us hl => match us, hl with | [_, _, _], _ => rfl) fun f cdv A outer s H E hr => ⟨_, 
    (pss_one (ps_ret (pe_callTy (cTuple (K := K)) (by rfl) B.tuple (by decide +kernel) (pa_cons (pe_lc (own := [("own", 3)]) (g := (gName 3)) (tt := tYes) rfl sc_row_times.nd (piTup (K := K) (pv 2)) (blkOk_by (N := ["p", "digit", "row", "own"]) (sc := defScope s_row_times) (by decide +kernel)) (fun _ _ _ _ _ => (pgN (i := 3) sc_row_times.nd rfl (by first | exact Or.inl rfl | exact Or.inr rfl) (by first | exact Or.inl rfl | exact Or.inr rfl))) (fun _ _ _ _ _ => pts_nil) (fun _ _ _ _ _ => (pe_op op_mod (pe_op op_mul (pv 1) (pv 3)) (pv 0)))) pa_nil)))), fun ds0 P0 hd => ?_⟩
  obtain ⟨p, d, a, rfl, hp, hd0, h2, rfl⟩ := hd
  refine sj_retD (xd_cb (xad_cons (xd_lcMap (js := [3]) (xid_tup (xd_var rfl)) (by simp) ?_ (fun x hx => xg_name) (fun x hx => (xd_op (xd_op (xd_var rfl) (xd_var rfl) (rd_I ?_)) (xd_var rfl) (rd_I ?_)))) xad_nil) (rc_tupE (enc := PyData.int))) ?_
  · omega
  · exact cmul_l hd0 hp
  · exact pp hp
  · rfl
theorem sc_row_product : FnScope ["p", "one", "other", "near", "far"] ["p", "one", "other"] (defScope s_row_product) := ⟨rfl, rfl, rfl, by decide +kernel, rfl, by decide +kernel, by decide +kernel⟩
def rowProd (p : Nat) (a b : List Int) : Int := ((a.zip b).map fun x => x.1 * x.2).sum % (p : Int)
abbrev lv_row_product : Nat := 2
def dom_row_product : List PyData → (PyData → Prop) → Prop := fun ds0 P0 => ∃ (p : Nat) (a b : List Int), ds0 = [.int p, rowD a, rowD b] ∧ (p = 2 ∨ p = 3) ∧ (a.length = b.length) ∧ (a.length ≤ 1000) ∧ (Dig p a) ∧ P0 = (fun z => z = .int (rowProd p a b))
abbrev sp_row_product (K : PySem.W.Frag) : Sp := SpD K dom_row_product
theorem xc_row_product {K : PySem.W.Frag} {tr : TA} {δ : List Sl} {p : Nat} {a b : List Int} (h0 : XAD K tr δ [.int p, rowD a, rowD b]) (hp : p = 2 ∨ p = 3) (h1 : a.length = b.length) (h2 : a.length ≤ 1000) (h3 : Dig p a) : XD K (tCall (sp_row_product K) [] E0 tr) δ (.int (rowProd p a b)) := xd_callD h0 ⟨_, _, _, rfl, hp, h1, h2, h3, rfl⟩
theorem ok_row_product (D : Df K mg "row_product" s_row_product) (B : Bi mg) (C_fit_lengths : Call1 P w K mg base CX0 lv_fit_lengths "fit_lengths" (sp_fit_lengths K)) : Call1 P w K mg base CX0 lv_row_product "row_product" (sp_row_product K) := by
  refine fun_ok (k := 1) (N := ["p", "one", "other", "near", "far"]) (ps := ["p", "one", "other"]) D sc_row_product (fun ds0 P0 hd => by obtain ⟨p, a, b, rfl, hp, h1, h2, h3, rfl⟩ := hd; rfl) (fun _ _ _ _ _ _ us hl => match us, hl with | [_, _, _], _ => rfl) fun f cdv A outer s H E hr => ⟨_, 
    (pss_cons (ps_expr (pe_callC C_fit_lengths (hr.mono (by decide)) (by rfl) (pa_cons (pv 1) (pa_cons (pv 2) pa_nil))))
      (pss_one (ps_ret (pe_op op_mod (pe_callB (cSum (K := K) rfl) (by rfl) B.sum (by decide +kernel) (pa_cons (pe_lc (own := [("near", 3), ("far", 4)]) (g := (gTup K 2 (gCons (gName 3) (gCons (gName 4) gNil)))) (tt := tYes) rfl sc_row_product.nd (piZip (K := K) (by rfl) B.zip (pa_cons (pv 1) (pa_cons (pv 2) pa_nil))) (blkOk_by (N := ["p", "one", "other", "near", "far"]) (sc := defScope s_row_product) (by decide +kernel)) (fun _ _ _ _ _ => (pgTup (K := K) rfl (pgs_cons (pgN (i := 3) sc_row_product.nd rfl (by first | exact Or.inl rfl | exact Or.inr rfl) (by first | exact Or.inl rfl | exact Or.inr rfl)) (pgs_cons (pgN (i := 4) sc_row_product.nd rfl (by first | exact Or.inl rfl | exact Or.inr rfl) (by first | exact Or.inl rfl | exact Or.inr rfl)) pgs_nil)))) (fun _ _ _ _ _ => pts_nil) (fun _ _ _ _ _ => (pe_op op_mul (pv 3) (pv 4)))) pa_nil)) (pv 0))))), fun ds0 P0 hd => ?_⟩
  obtain ⟨p, a, b, rfl, hp, h1, h2, h3, rfl⟩ := hd
  refine sj_seq (sj_drop ((xc_fit_lengths (xad_cons (xd_var rfl) (xad_cons (xd_var rfl) xad_nil)) ?_) _) ?_)
  · simp [h1]
  · refine sj_retD (xd_op (xd_cb (xad_cons (xd_lcMap (js := [3, 4]) ((xid_zipT (xad_cons (xd_var rfl) (xad_cons (xd_var rfl) xad_nil))).is zipD_map) (by simp) ?_ (fun x hx => xg_tup2) (fun x hx => (xd_op (xd_var rfl) (xd_var rfl) (rd_I ?_)))) xad_nil) rc_sumE) (xd_var rfl) (rd_I ?_)) ?_
    · simp; omega
    · exact cmul_l (h3 x.1 (List.of_mem_zip hx).1) hp
    · exact pp hp
    · rfl
theorem sc_marked_places : FnScope ["row", "place", "own"] ["row"] (defScope s_marked_places) := ⟨rfl, rfl, rfl, by decide +kernel, rfl, by decide +kernel, by decide +kernel⟩
def marks (r : List Int) : List Int := (r.zipIdx.filter fun x => !decide (x.1 = 0)).map fun x => ((x.2 : Nat) : Int)
abbrev lv_marked_places : Nat := 1
def dom_marked_places : List PyData → (PyData → Prop) → Prop := fun ds0 P0 => ∃ (r : List Int), ds0 = [rowD r] ∧ (r.length ≤ 1000) ∧ P0 = (fun z => z = rowD (marks r))
abbrev sp_marked_places (K : PySem.W.Frag) : Sp := SpD K dom_marked_places
theorem xc_marked_places {K : PySem.W.Frag} {tr : TA} {δ : List Sl} {r : List Int} (h0 : XAD K tr δ [rowD r]) (h1 : r.length ≤ 1000) : XD K (tCall (sp_marked_places K) [] E0 tr) δ (rowD (marks r)) := xd_callD h0 ⟨_, rfl, h1, rfl⟩
theorem ok_marked_places (D : Df K mg "marked_places" s_marked_places) (B : Bi mg) : Call1 P w K mg base CX0 lv_marked_places "marked_places" (sp_marked_places K) := by
  refine fun_ok (k := 0) (N := ["row", "place", "own"]) (ps := ["row"]) D sc_marked_places (fun ds0 P0 hd => by obtain ⟨r, rfl, h1, rfl⟩ := hd; rfl) (fun _ _ _ _ _ _ us hl => match us, hl with | [_], _ => rfl) fun f cdv A outer s H E hr => ⟨_, 
    (pss_one (ps_ret (pe_callTy (cTuple (K := K)) (by rfl) B.tuple (by decide +kernel) (pa_cons (pe_lc (own := [("place", 1), ("own", 2)]) (g := (gTup K 2 (gCons (gName 1) (gCons (gName 2) gNil)))) rfl sc_marked_places.nd (piEnumT (K := K) (by rfl) B.enumerate (pa_cons (pv 0) pa_nil)) (blkOk_by (N := ["row", "place", "own"]) (sc := defScope s_marked_places) (by decide +kernel)) (fun _ _ _ _ _ => (pgTup (K := K) rfl (pgs_cons (pgN (i := 1) sc_marked_places.nd rfl (by first | exact Or.inl rfl | exact Or.inr rfl) (by first | exact Or.inl rfl | exact Or.inr rfl)) (pgs_cons (pgN (i := 2) sc_marked_places.nd rfl (by first | exact Or.inl rfl | exact Or.inr rfl) (by first | exact Or.inl rfl | exact Or.inr rfl)) pgs_nil)))) (fun _ _ _ _ _ => (pts_one (pt_cmpR op_ne (pv 2) pe_int (nomark _)))) (fun _ _ _ _ _ => (pv 1))) pa_nil)))), fun ds0 P0 hd => ?_⟩
  obtain ⟨r, rfl, h1, rfl⟩ := hd
  refine sj_retD (xd_cb (xad_cons (xd_lcFil (js := [1, 2]) ((xid_enumT (xad_cons (xd_var rfl) xad_nil)).is enD_map) (by simp) ?_ (fun x hx => xg_tup2) (fun x hx => (xt_test (xd_op (xd_var rfl) xd_int rd_neI))) (fun x hx hb => (xd_var rfl))) xad_nil) (rc_tupE (enc := PyData.int))) ?_
  · simp; omega
  · rfl
def leadAt (r : List Int) : Option Nat := r.findIdx? fun x => x != 0
theorem marks_lead {r : List Int} {j : Nat} (h : leadAt r = some j) : ∃ t, marks r = (j : Int) :: t := by
  unfold leadAt at h
  have key : ∀ (r : List Int) (k j : Nat), r.findIdx? (fun x => x != 0) = some j → ∃ t, ((r.zipIdx k).filter fun x => !decide (x.1 = 0)).map (fun x => ((x.2 : Nat) : Int)) = ((k + j : Nat) : Int) :: t := by
    intro r
    induction r with
    | nil => intro k j h; simp at h
    | cons x r ih =>
      intro k j h
      rw [List.findIdx?_cons] at h
      rw [List.zipIdx_cons]
      by_cases hx : x = 0
      · simp [hx] at h
        obtain ⟨j', h', rfl⟩ := h
        obtain ⟨t, ht⟩ := ih (k + 1) j' h'
        refine ⟨t, ?_⟩
        rw [List.filter_cons_of_neg (by simp [hx]), ht]
        congr 2
        omega
      · simp [hx] at h
        subst h
        refine ⟨_, by rw [List.filter_cons_of_pos (by simp [hx]), List.map_cons]; rfl⟩
  have := key r 0 j h
  simpa [marks] using this
theorem lead_lt {r : List Int} {j : Nat} (h : leadAt r = some j) : j < r.length ∧ r.getD j 0 ≠ 0 := by
  unfold leadAt at h
  rw [List.findIdx?_eq_some_iff_getElem] at h
  obtain ⟨h1, h2, _⟩ := h
  refine ⟨h1, ?_⟩
  rw [List.getD_eq_getElem?_getD, List.getElem?_eq_getElem h1]
  simpa using h2
theorem sc_led_row : FnScope ["p", "row", "places"] ["p", "row"] (defScope s_led_row) := ⟨rfl, rfl, rfl, by decide +kernel, rfl, by decide +kernel, by decide +kernel⟩
abbrev lv_led_row : Nat := 2
def dom_led_row : List PyData → (PyData → Prop) → Prop := fun ds0 P0 => ∃ (p : Nat) (r : List Int) (j : Nat), ds0 = [.int p, rowD r] ∧ (p = 2 ∨ p = 3) ∧ (Dig p r) ∧ (leadAt r = some j) ∧ (r.length ≤ 1000) ∧ P0 = (fun z => z = rowD (rowTimes p (r.getD j 0) r))
abbrev sp_led_row (K : PySem.W.Frag) : Sp := SpD K dom_led_row
theorem xc_led_row {K : PySem.W.Frag} {tr : TA} {δ : List Sl} {p : Nat} {r : List Int} {j : Nat} (h0 : XAD K tr δ [.int p, rowD r]) (hp : p = 2 ∨ p = 3) (h1 : Dig p r) (h2 : leadAt r = some j) (h3 : r.length ≤ 1000) : XD K (tCall (sp_led_row K) [] E0 tr) δ (rowD (rowTimes p (r.getD j 0) r)) := xd_callD h0 ⟨_, _, _, rfl, hp, h1, h2, h3, rfl⟩
theorem ok_led_row (D : Df K mg "led_row" s_led_row) (B : Bi mg) (C_inverse_digit : Call1 P w K mg base CX0 lv_inverse_digit "inverse_digit" (sp_inverse_digit K)) (C_marked_places : Call1 P w K mg base CX0 lv_marked_places "marked_places" (sp_marked_places K)) (C_row_times : Call1 P w K mg base CX0 lv_row_times "row_times" (sp_row_times K)) : Call1 P w K mg base CX0 lv_led_row "led_row" (sp_led_row K) := by
  refine fun_ok (k := 1) (N := ["p", "row", "places"]) (ps := ["p", "row"]) D sc_led_row (fun ds0 P0 hd => by obtain ⟨p, r, j, rfl, hp, h1, h2, h3, rfl⟩ := hd; rfl) (fun _ _ _ _ _ _ us hl => match us, hl with | [_, _], _ => rfl) fun f cdv A outer s H E hr => ⟨_, 
    (pss_cons (ps_set (i := 2) sc_led_row.nd rfl (by first | exact Or.inl rfl | exact Or.inr rfl) (pe_callC C_marked_places (hr.mono (by decide)) (by rfl) (pa_cons (pv 1) pa_nil)) (hf := (by first | exact Or.inl rfl | exact Or.inr rfl)))
      (pss_cons (ps_if (pt_cmpR (opEqD (K := K) hr.units) (pv 2) (pe_tup pa_nil) (nomark _)) (pss_one ps_never) pss_nil)
      (pss_one (ps_ret (pe_callC C_row_times (hr.mono (by decide)) (by rfl) (pa_cons (pv 0) (pa_cons (pe_callC C_inverse_digit (hr.mono (by decide)) (by rfl) (pa_cons (pv 0) (pa_cons (pe_ix (ixT (K := K)) (pv 1) (pe_ix (ixT (K := K)) (pv 2) pe_int (fun _ _ => rfl)) (fun _ _ => rfl)) pa_nil))) (pa_cons (pv 1) pa_nil)))))))), fun ds0 P0 hd => ?_⟩
  obtain ⟨p, r, j, rfl, hp, h1, h2, h3, rfl⟩ := hd
  obtain ⟨t, ht⟩ := marks_lead h2
  have hj := lead_lt h2
  have hd := h1.getD (by omega) j
  refine sj_seq (sj_asgD (xc_marked_places (xad_cons (xd_var rfl) xad_nil) ?_) ?_)
  · exact h3
  · rw [ht]
    refine sj_seq (sj_ifF (XT.is (xt_test (xd_op (xd_var rfl) (xd_tup xad_nil (by simp)) (rd_eqD ?_ ?_))) ?_) (sj_next ?_))
    · exact (sh_row _).ok
    · exact sh_nilT.ok
    · rw [eqv_nilT]; rfl
    · refine sj_retD (xc_row_times (d := r.getD j 0) (xad_cons (xd_var rfl) (xad_cons (xc_inverse_digit (xad_cons (xd_var rfl) (xad_cons (xd_op (xd_var rfl) (xd_op (e := .int 0) (xd_var rfl) xd_int (rd_ixT (ds := (((j : Nat) : Int) :: t).map PyData.int) (i := 0) (d := .int (j : Nat)) ?_)) (rd_ixG (i := j) 0 ?_)) xad_nil)) ?_ ?_) (xad_cons (xd_var rfl) xad_nil))) ?_ ?_ ?_) rfl
      · exact atI_nat (j := 0) rfl
      · exact hj.1
      · exact hp
      · omega
      · exact hp
      · exact hd
      · exact h3
theorem sc_fit_rows : FnScope ["many", "rows", "own"] ["many", "rows"] (defScope s_fit_rows) := ⟨rfl, rfl, rfl, by decide +kernel, rfl, by decide +kernel, by decide +kernel⟩
abbrev lv_fit_rows : Nat := 1
def dom_fit_rows : List PyData → (PyData → Prop) → Prop := fun ds0 P0 => ∃ (m : Nat) (rs : List (List Int)), ds0 = [.int m, rowsD rs] ∧ (∀ r ∈ rs, r.length = m) ∧ (rs.length ≤ 1000) ∧ P0 = (fun z => z = .none)
abbrev sp_fit_rows (K : PySem.W.Frag) : Sp := SpD K dom_fit_rows
theorem xc_fit_rows {K : PySem.W.Frag} {tr : TA} {δ : List Sl} {m : Nat} {rs : List (List Int)} (h0 : XAD K tr δ [.int m, rowsD rs]) (h1 : ∀ r ∈ rs, r.length = m) (h2 : rs.length ≤ 1000) : XD K (tCall (sp_fit_rows K) [] E0 tr) δ (.none) := xd_callD h0 ⟨_, _, rfl, h1, h2, rfl⟩
theorem ok_fit_rows (D : Df K mg "fit_rows" s_fit_rows) (B : Bi mg) : Call1 P w K mg base CX0 lv_fit_rows "fit_rows" (sp_fit_rows K) := by
  refine fun_ok (k := 0) (N := ["many", "rows", "own"]) (ps := ["many", "rows"]) D sc_fit_rows (fun ds0 P0 hd => by obtain ⟨m, rs, rfl, h1, h2, rfl⟩ := hd; rfl) (fun _ _ _ _ _ _ us hl => match us, hl with | [_, _], _ => rfl) fun f cdv A outer s H E hr => ⟨_, 
    (pss_one (ps_if (pt_not (pt_val (pe_callB (cAll (K := K) rfl) (by rfl) B.all (by decide +kernel) (pa_cons (pe_lc (own := [("own", 2)]) (g := (gName 2)) (tt := tYes) rfl sc_fit_rows.nd (piTup (K := K) (pv 1)) (blkOk_by (N := ["many", "rows", "own"]) (sc := defScope s_fit_rows) (by decide +kernel)) (fun _ _ _ _ _ => (pgN (i := 2) sc_fit_rows.nd rfl (by first | exact Or.inl rfl | exact Or.inr rfl) (by first | exact Or.inl rfl | exact Or.inr rfl))) (fun _ _ _ _ _ => pts_nil) (fun _ _ _ _ _ => (pe_cmpR op_eq (pe_callB (cLen (K := K)) (by rfl) B.len PySem.boot_len (pa_cons (pv 2) pa_nil)) (pv 0) (nomark _)))) pa_nil)))) (pss_one ps_never) pss_nil)), fun ds0 P0 hd => ?_⟩
  obtain ⟨m, rs, rfl, h1, h2, rfl⟩ := hd
  refine sj_ifF (XT.is (xt_not (xt_val (xd_cb (xad_cons (xd_lcMap (js := [2]) (xid_tup (xd_var rfl)) (by simp) ?_ (fun x hx => xg_name) (fun x hx => (xd_op (xd_cb (xad_cons (xd_var rfl) xad_nil) rc_lenE) (xd_var rfl) rd_eqI))) xad_nil) rc_allE))) ?_) (sj_next rfl)
  · omega
  · rw [Bool.not_eq_false', List.all_eq_true]
    intro r hr
    simp [h1 r hr]
theorem sc_place_led : FnScope ["row", "place", "own"] ["row"] (defScope s_place_led) := ⟨rfl, rfl, rfl, by decide +kernel, rfl, by decide +kernel, by decide +kernel⟩
def ledD (r : List Int) : PyData := match leadAt r with | some j => .int (j : Nat) | none => .none
abbrev lv_place_led : Nat := 1
def dom_place_led : List PyData → (PyData → Prop) → Prop := fun ds0 P0 => ∃ (r : List Int), ds0 = [rowD r] ∧ (r.length ≤ 1000) ∧ P0 = (fun z => z = ledD r)
abbrev sp_place_led (K : PySem.W.Frag) : Sp := SpD K dom_place_led
theorem xc_place_led {K : PySem.W.Frag} {tr : TA} {δ : List Sl} {r : List Int} (h0 : XAD K tr δ [rowD r]) (h1 : r.length ≤ 1000) : XD K (tCall (sp_place_led K) [] E0 tr) δ (ledD r) := xd_callD h0 ⟨_, rfl, h1, rfl⟩
theorem ok_place_led (D : Df K mg "place_led" s_place_led) (B : Bi mg) : Call1 P w K mg base CX0 lv_place_led "place_led" (sp_place_led K) := by
  refine fun_ok (k := 0) (N := ["row", "place", "own"]) (ps := ["row"]) D sc_place_led (fun ds0 P0 hd => by obtain ⟨r, rfl, h1, rfl⟩ := hd; rfl) (fun _ _ _ _ _ _ us hl => match us, hl with | [_], _ => rfl) fun f cdv A outer s H E hr => ⟨_, 
    (pss_cons (ps_for (g := (gTup K 2 (gCons (gName 1) (gCons (gName 2) gNil)))) PassesOwn.never rfl (piEnumT (K := K) (by rfl) B.enumerate (pa_cons (pv 0) pa_nil)) (pgTup (K := K) rfl (pgs_cons (pgN (i := 1) sc_place_led.nd rfl (by first | exact Or.inl rfl | exact Or.inr rfl) (by first | exact Or.inl rfl | exact Or.inr rfl)) (pgs_cons (pgN (i := 2) sc_place_led.nd rfl (by first | exact Or.inl rfl | exact Or.inr rfl) (by first | exact Or.inl rfl | exact Or.inr rfl)) pgs_nil))) (pss_one (ps_if (pt_cmpR op_ne (pv 2) pe_int (nomark _)) (pss_one (ps_ret (pv 1))) pss_nil)))
      (pss_one (ps_ret pe_non))), fun ds0 P0 hd => ?_⟩
  obtain ⟨r, rfl, h1, rfl⟩ := hd
  refine sj_seq (sj_forT ((xid_enumT (xad_cons (xd_var rfl) xad_nil)).is enD_map) (fun i δ _ => δ[0]? = some (.val (rowD r)) ∧ δ.length = 3 ∧ ∀ k, k < i → r[k]? = some 0) ⟨rfl, rfl, fun k hk => absurd hk (Nat.not_lt_zero k)⟩ (fun i x δ' m hx iv => ?_) (fun δ' m iv => ?_))
  · obtain ⟨v0, v1, hz⟩ := iv
    obtain ⟨s0, s1, s2, rfl⟩ : ∃ s0 s1 s2, δ' = [s0, s1, s2] := by
      match δ', v1 with
      | [a, b, c], _ => exact ⟨a, b, c, rfl⟩
    cases v0
    rw [List.getElem?_zipIdx] at hx
    cases e : r[i]? with
    | none => rw [e] at hx; cases hx
    | some y =>
      rw [e] at hx
      cases hx
      refine ⟨_, [1, 2], xg_tup2, sj_if (xt_test (xd_op (xd_var rfl) xd_int rd_neI)) (fun hb => ?_) (fun hb => ?_)⟩
      · refine sj_retD (xd_var rfl) ?_
        have hy : y ≠ 0 := by simpa using hb
        unfold ledD
        rw [show leadAt r = some i from ?_]
        · simp
        · unfold leadAt
          rw [List.findIdx?_eq_some_iff_getElem]
          obtain ⟨hl, hl2⟩ := List.getElem?_eq_some_iff.mp e
          refine ⟨hl, by rw [hl2]; simpa using hy, fun k hk => ?_⟩
          obtain ⟨hl3, hl4⟩ := List.getElem?_eq_some_iff.mp (hz k hk)
          simp [hl4]
      · refine sj_next ⟨rfl, rfl, fun k hk => ?_⟩
        have hy : y = 0 := by simpa using hb
        rcases Nat.lt_succ_iff_lt_or_eq.mp hk with hk | rfl
        · exact hz k hk
        · rw [e, hy]
  · obtain ⟨_, _, hz⟩ := iv
    refine sj_retD xd_non ?_
    unfold ledD
    rw [show leadAt r = none from ?_]
    unfold leadAt
    rw [List.findIdx?_eq_none_iff]
    intro x hx
    obtain ⟨k, hk, rfl⟩ := List.getElem_of_mem hx
    have := hz k (by simpa using hk)
    rw [List.getElem?_eq_getElem hk] at this
    simpa using this
theorem sc_less_at : FnScope ["p", "row", "lead", "place"] ["p", "row", "lead", "place"] (defScope s_less_at) := ⟨rfl, rfl, rfl, by decide +kernel, rfl, by decide +kernel, by decide +kernel⟩
def lessAt (p : Nat) (r l : List Int) (j : Nat) : List Int := rowLess p r (rowTimes p (r.getD j 0) l)
abbrev lv_less_at : Nat := 3
def dom_less_at : List PyData → (PyData → Prop) → Prop := fun ds0 P0 => ∃ (p : Nat) (r l : List Int) (j : Nat), ds0 = [.int p, rowD r, rowD l, .int j] ∧ (p = 2 ∨ p = 3) ∧ (Dig p r) ∧ (r.length = l.length) ∧ (r.length ≤ 1000) ∧ (j < r.length) ∧ P0 = (fun z => z = rowD (lessAt p r l j))
abbrev sp_less_at (K : PySem.W.Frag) : Sp := SpD K dom_less_at
theorem xc_less_at {K : PySem.W.Frag} {tr : TA} {δ : List Sl} {p : Nat} {r l : List Int} {j : Nat} (h0 : XAD K tr δ [.int p, rowD r, rowD l, .int j]) (hp : p = 2 ∨ p = 3) (h1 : Dig p r) (h2 : r.length = l.length) (h3 : r.length ≤ 1000) (h4 : j < r.length) : XD K (tCall (sp_less_at K) [] E0 tr) δ (rowD (lessAt p r l j)) := xd_callD h0 ⟨_, _, _, _, rfl, hp, h1, h2, h3, h4, rfl⟩
theorem ok_less_at (D : Df K mg "less_at" s_less_at) (B : Bi mg) (C_row_less : Call1 P w K mg base CX0 lv_row_less "row_less" (sp_row_less K)) (C_row_times : Call1 P w K mg base CX0 lv_row_times "row_times" (sp_row_times K)) : Call1 P w K mg base CX0 lv_less_at "less_at" (sp_less_at K) := by
  refine fun_ok (k := 2) (N := ["p", "row", "lead", "place"]) (ps := ["p", "row", "lead", "place"]) D sc_less_at (fun ds0 P0 hd => by obtain ⟨p, r, l, j, rfl, hp, h1, h2, h3, h4, rfl⟩ := hd; rfl) (fun _ _ _ _ _ _ us hl => match us, hl with | [_, _, _, _], _ => rfl) fun f cdv A outer s H E hr => ⟨_, 
    (pss_one (ps_ret (pe_callC C_row_less (hr.mono (by decide)) (by rfl) (pa_cons (pv 0) (pa_cons (pv 1) (pa_cons (pe_callC C_row_times (hr.mono (by decide)) (by rfl) (pa_cons (pv 0) (pa_cons (pe_ix (ixT (K := K)) (pv 1) (pv 3) (fun _ _ => rfl)) (pa_cons (pv 2) pa_nil)))) pa_nil)))))), fun ds0 P0 hd => ?_⟩
  obtain ⟨p, r, l, j, rfl, hp, h1, h2, h3, h4, rfl⟩ := hd
  refine sj_retD (xc_row_less (xad_cons (xd_var rfl) (xad_cons (xd_var rfl) (xad_cons (xc_row_times (xad_cons (xd_var rfl) (xad_cons (xd_op (xd_var rfl) (xd_var rfl) (rd_ixG 0 ?_)) (xad_cons (xd_var rfl) xad_nil))) ?_ ?_ ?_) xad_nil))) ?_ ?_ ?_) rfl
  · exact h4
  · exact hp
  · exact h1.getD (by omega) j
  · omega
  · exact hp
  · simp [rowTimes, h2]
  · exact h3
end
end Dry

set_option Elab.async false
set_option linter.all false
set_option maxRecDepth 100000
set_option maxHeartbeats 4000000
namespace Dry
open PySem PySem.Spec PyProof.Rows L2 RZ
section
variable {P : Program} {w : World} {K : PySem.W.Frag} {mg : Str → Option Value} {base : Heap}
/-- a def of which nothing is promised yet -/
theorem call_none {x : Str} {st : Stmt} {ps : List Str} (F : Df K mg x st)
    (hb : ∀ (kV doc pm : Value) (an : Option Addr) (cdv ct : Value) (us : List Value), us.length = ps.length → bindArgs (PySem.W.fnOf x x (defArgs st) (defBody st) (defScope st) .none kV doc pm an cdv ct) ⟨us, []⟩ = pure (ps.zip us)) :
    Call1 P w K mg base CX0 0 x (SpD K fun _ _ => False) := by
  obtain ⟨f, fd, F, hm⟩ := F
  exact ⟨f, fd, ps, ⟨fun vs H Q E ⟨_, _, _, _, _, h, _⟩ => h.elim, fun A outer s H args us vs Q E hr he hb hv ⟨_, _, _, _, _, h, _⟩ => h.elim⟩, hm, F.kp, F.bindsN hb⟩
theorem Call1.mono {x : Str} {sp sp' : Sp} {j k : Nat} (C : Call1 P w K mg base CX0 j x sp) (h : j ≤ k) (hs : ∀ vs H Q E, sp' vs H Q E → sp vs H Q E) : Call1 P w K mg base CX0 k x sp' := by
  obtain ⟨f, fd, ps, F, hm, hk, hb⟩ := C.ex
  exact ⟨f, fd, ps, (F.mono h).imp hs, hm, hk, hb⟩
mutual
def tup : PyData → PyData
  | .list xs => .tuple (tupAll xs)
  | .tuple xs => .tuple (tupAll xs)
  | d => d
def tupAll : List PyData → List PyData
  | [] => []
  | x :: xs => tup x :: tupAll xs
end
theorem tupAll_map : ∀ xs : List PyData, tupAll xs = xs.map tup
  | [] => by simp [tupAll]
  | x :: xs => by simp [tupAll, tupAll_map xs]
def TOk : Nat → PyData → Prop
  | 0, _ => False
  | k + 1, .list xs => xs.length ≤ 50000 ∧ ∀ x ∈ xs, TOk k x
  | k + 1, .tuple xs => xs.length ≤ 50000 ∧ ∀ x ∈ xs, TOk k x
  | _ + 1, _ => True
theorem tok_int {k : Nat} {i : Int} : TOk (k + 1) (.int i) := trivial
theorem tok_tup {k : Nat} {xs : List PyData} (h1 : xs.length ≤ 50000) (h2 : ∀ x ∈ xs, TOk k x) : TOk (k + 1) (.tuple xs) := ⟨h1, h2⟩
theorem tok_list {k : Nat} {xs : List PyData} (h1 : xs.length ≤ 50000) (h2 : ∀ x ∈ xs, TOk k x) : TOk (k + 1) (.list xs) := ⟨h1, h2⟩
theorem tok_row {k : Nat} {r : List Int} (h : r.length ≤ 50000) : TOk (k + 2) (rowD r) := tok_tup (by rw [List.length_map]; exact h) fun x hx => by
  obtain ⟨i, _, rfl⟩ := List.mem_map.mp hx
  trivial
theorem tok_rows {k : Nat} {rs : List (List Int)} (h : rs.length ≤ 50000) (h2 : ∀ r ∈ rs, r.length ≤ 50000) : TOk (k + 3) (rowsD rs) := tok_tup (by rw [List.length_map]; exact h) fun x hx => by
  obtain ⟨r, hr, rfl⟩ := List.mem_map.mp hx
  exact tok_row (h2 r hr)
theorem tup_row (r : List Int) : tup (rowD r) = rowD r := by
  simp only [tup, tupAll_map, List.map_map]
  rfl
theorem tup_rows (rs : List (List Int)) : tup (rowsD rs) = rowsD rs := by
  simp only [tup, tupAll_map, List.map_map, PyData.tuple.injEq]
  apply List.map_congr_left
  intro r _
  exact tup_row r
theorem sc_tupled : FnScope ["thing", "part"] ["thing"] (defScope s_tupled) := ⟨rfl, rfl, rfl, by decide +kernel, rfl, by decide +kernel, by decide +kernel⟩
def dom_tupled (k : Nat) : List PyData → (PyData → Prop) → Prop := fun ds P => ∃ d, ds = [d] ∧ TOk k d ∧ P = fun z => z = tup d
abbrev sp_tupled (K : PySem.W.Frag) : Sp := SpD K (dom_tupled 6)
theorem xc_tupled' {K : PySem.W.Frag} {tr : TA} {δ : List Sl} {d : PyData} {k : Nat} (h : XAD K tr δ [d]) (hd : TOk k d) : XD K (tCall (SpD K (dom_tupled k)) [] E0 tr) δ (tup d) := xd_callD h ⟨d, rfl, hd, rfl⟩
theorem xc_tupled {K : PySem.W.Frag} {tr : TA} {δ : List Sl} {d : PyData} (h : XAD K tr δ [d]) (hd : TOk 6 d) : XD K (tCall (sp_tupled K) [] E0 tr) δ (tup d) := xc_tupled' h hd
abbrev lv_tupled : Nat := 6
theorem step_tupled (D : Df K mg "tupled" s_tupled) (B : Bi mg) (k : Nat) (C_tupled : Call1 P w K mg base CX0 k "tupled" (SpD K (dom_tupled k))) : Call1 P w K mg base CX0 (k + 1) "tupled" (SpD K (dom_tupled (k + 1))) := by
  refine fun_ok (k := k) (N := ["thing", "part"]) (ps := ["thing"]) D sc_tupled (fun ds0 P0 hd => by obtain ⟨d, rfl, _, rfl⟩ := hd; rfl) (fun _ _ _ _ _ _ us hl => match us, hl with | [_], _ => rfl) fun f cdv A outer s H E hr => ⟨_,
    (pss_one (ps_ret (pe_ifExp (pt_val (pe_callB (cIsi2 (K := K)) (by rfl) B.isinstance (by decide +kernel) (pa_cons (pv 0) (pa_cons (pe_tup (pa_cons (pe_bltn (v := .ty "list") (by rfl) B.list (by decide +kernel) rfl) (pa_cons (pe_bltn (v := .ty "tuple") (by rfl) B.tuple (by decide +kernel) rfl) pa_nil))) pa_nil)))) (pe_callTy (cTuple (K := K)) (by rfl) B.tuple (by decide +kernel) (pa_cons (pe_lc (own := [("part", 1)]) (g := (gName 1)) (tt := tYes) rfl sc_tupled.nd (piSeq (K := K) (pv 0)) (blkOk_by (N := ["thing", "part"]) (sc := defScope s_tupled) (by decide +kernel)) (fun _ _ _ _ _ => (pgN (i := 1) sc_tupled.nd rfl (by first | exact Or.inl rfl | exact Or.inr rfl) (by first | exact Or.inl rfl | exact Or.inr rfl))) (fun _ _ _ _ _ => pts_nil) (fun _ _ _ _ _ => (pe_callC C_tupled hr (by rfl) (pa_cons (pv 1) pa_nil)))) pa_nil)) (pv 0)))), fun ds0 P0 hd => ?_⟩
  obtain ⟨d, rfl, h, rfl⟩ := hd
  cases d with
  | list xs =>
    refine sj_retD (xd_if (b := true) (XT.is (xt_val (xd_isi2 (xd_var rfl) kit_list kit_tuple)) rfl) (fun _ => (xd_cb (xad_cons (xd_lcMap (A := fun z => z) (js := [1]) ((xid_seqL (xd_var rfl)).is (List.map_id' xs).symm) (by simp) ?_ (fun x hx => xg_name) (fun x hx => (xc_tupled' (xad_cons (xd_var rfl) xad_nil) (h.2 x hx)))) xad_nil) rc_tupleL)) fun z => nomatch z) ?_
    · exact h.1
    · simp only [tup, tupAll_map]
  | tuple xs =>
    refine sj_retD (xd_if (b := true) (XT.is (xt_val (xd_isi2 (xd_var rfl) kit_list kit_tuple)) rfl) (fun _ => (xd_cb (xad_cons (xd_lcMap (A := fun z => z) (js := [1]) ((xid_seqT (xd_var rfl)).is (List.map_id' xs).symm) (by simp) ?_ (fun x hx => xg_name) (fun x hx => (xc_tupled' (xad_cons (xd_var rfl) xad_nil) (h.2 x hx)))) xad_nil) rc_tupleL)) fun z => nomatch z) ?_
    · exact h.1
    · simp only [tup, tupAll_map]
  | none => exact sj_retD (xd_if (b := false) (XT.is (xt_val (xd_isi2 (xd_var rfl) kit_list kit_tuple)) rfl) (fun z => nomatch z) fun _ => (xd_var rfl)) (by simp [tup])
  | bool b => exact sj_retD (xd_if (b := false) (XT.is (xt_val (xd_isi2 (xd_var rfl) kit_list kit_tuple)) rfl) (fun z => nomatch z) fun _ => (xd_var rfl)) (by simp [tup])
  | int b => exact sj_retD (xd_if (b := false) (XT.is (xt_val (xd_isi2 (xd_var rfl) kit_list kit_tuple)) rfl) (fun z => nomatch z) fun _ => (xd_var rfl)) (by simp [tup])
  | str b => exact sj_retD (xd_if (b := false) (XT.is (xt_val (xd_isi2 (xd_var rfl) kit_list kit_tuple)) rfl) (fun z => nomatch z) fun _ => (xd_var rfl)) (by simp [tup])
  | dict b => exact sj_retD (xd_if (b := false) (XT.is (xt_val (xd_isi2 (xd_var rfl) kit_list kit_tuple)) rfl) (fun z => nomatch z) fun _ => (xd_var rfl)) (by simp [tup])
theorem ok_tupled (D : Df K mg "tupled" s_tupled) (B : Bi mg) : Call1 P w K mg base CX0 lv_tupled "tupled" (sp_tupled K) := by
  have h0 : Call1 P w K mg base CX0 0 "tupled" (SpD K (dom_tupled 0)) := (call_none (ps := ["thing"]) D (fun _ _ _ _ _ _ us hl => match us, hl with | [_], _ => rfl)).mono (Nat.le_refl _) fun vs H Q E ⟨ds, P, G, a, b, ⟨d, e, h, _⟩, c⟩ => h.elim
  have go : ∀ k, Call1 P w K mg base CX0 k "tupled" (SpD K (dom_tupled k)) := fun k => by
    induction k with
    | zero => exact h0
    | succ k ih => exact step_tupled D B k ih
  exact go 6
def red (p : Nat) (L : List (Nat × List Int)) (row : List Int) : List Int := L.foldl (fun l x => lessAt p l x.2 x.1) row
def owned (p : Nat) (r : List Int) (j : Nat) : List Int := rowTimes p (r.getD j 0) r
def withRow (p : Nat) (L : List (Nat × List Int)) (row : List Int) : List (Nat × List Int) :=
  match leadAt (red p L row) with
  | none => L
  | some j => srt (L.map (fun x => (x.1, lessAt p x.2 (owned p (red p L row) j) j)) ++ [(j, owned p (red p L row) j)])
structure LOk (p n : Nat) (L : List (Nat × List Int)) : Prop where
  lt : ∀ x ∈ L, x.1 < n
  len : ∀ x ∈ L, x.2.length = n
  dig : ∀ x ∈ L, Dig p x.2
theorem dig_mod {p : Nat} (hp : 0 < p) (i : Int) : 0 ≤ i % (p : Int) ∧ i % (p : Int) < p := ⟨Int.emod_nonneg _ (by omega), Int.emod_lt_of_pos _ (by omega)⟩
theorem dig_times {p : Nat} (hp : 0 < p) (d : Int) (r : List Int) : Dig p (rowTimes p d r) := fun x hx => by
  obtain ⟨y, _, rfl⟩ := List.mem_map.mp hx
  exact dig_mod hp _
theorem dig_less {p : Nat} (hp : 0 < p) (a b : List Int) : Dig p (rowLess p a b) := fun x hx => by
  obtain ⟨y, _, rfl⟩ := List.mem_map.mp hx
  exact dig_mod hp _
theorem len_times {p : Nat} {d : Int} {r : List Int} : (rowTimes p d r).length = r.length := by simp [rowTimes]
theorem len_less {p : Nat} {a b : List Int} (h : a.length = b.length) : (rowLess p a b).length = a.length := by simp [rowLess, h]
theorem len_lessAt {p n : Nat} {a b : List Int} {j : Nat} (h : a.length = n) (h2 : b.length = n) : (lessAt p a b j).length = n := by
  unfold lessAt
  rw [len_less (by rw [len_times, h, h2]), h]
theorem dig_lessAt {p : Nat} (hp : 0 < p) (a b : List Int) (j : Nat) : Dig p (lessAt p a b j) := dig_less hp _ _
theorem red_ok {p n : Nat} (hp : 0 < p) : ∀ {L : List (Nat × List Int)} {row : List Int}, LOk p n L → row.length = n → Dig p row → (red p L row).length = n ∧ Dig p (red p L row)
  | [], row, _, h1, h2 => ⟨h1, h2⟩
  | x :: L, row, h, h1, h2 => red_ok (L := L) hp ⟨fun y hy => h.lt y (by simp [hy]), fun y hy => h.len y (by simp [hy]), fun y hy => h.dig y (by simp [hy])⟩ (len_lessAt h1 (h.len x (by simp))) (dig_lessAt hp _ _ _)
theorem LOk.take {p n : Nat} {L : List (Nat × List Int)} (h : LOk p n L) (k : Nat) : LOk p n (L.take k) := ⟨fun x hx => h.lt x (List.mem_of_mem_take hx), fun x hx => h.len x (List.mem_of_mem_take hx), fun x hx => h.dig x (List.mem_of_mem_take hx)⟩
theorem red_succ {p : Nat} {L : List (Nat × List Int)} {row : List Int} {i : Nat} {x : Nat × List Int} (h : L[i]? = some x) : red p (L.take (i + 1)) row = lessAt p (red p (L.take i) row) x.2 x.1 := by
  unfold red
  rw [List.take_succ, h, List.foldl_append]
  rfl
theorem withRow_ok {p n : Nat} (hp : 0 < p) {L : List (Nat × List Int)} {row : List Int} (h : LOk p n L) (h1 : row.length = n) (h2 : Dig p row) : LOk p n (withRow p L row) ∧ (withRow p L row).length ≤ L.length + 1 := by
  obtain ⟨r1, r2⟩ := red_ok hp h h1 h2
  unfold withRow
  cases e : leadAt (red p L row) with
  | none => exact ⟨h, by simp⟩
  | some j =>
    have hj := lead_lt e
    have hlen : (owned p (red p L row) j).length = n := by rw [owned, len_times, r1]
    have hall : ∀ x ∈ srt (L.map (fun x => (x.1, lessAt p x.2 (owned p (red p L row) j) j)) ++ [(j, owned p (red p L row) j)]), x.1 < n ∧ x.2.length = n ∧ Dig p x.2 := fun x hx => by
      rw [(srt_perm _).mem_iff, List.mem_append] at hx
      rcases hx with hx | hx
      · obtain ⟨y, hy, rfl⟩ := List.mem_map.mp hx
        exact ⟨h.lt y hy, len_lessAt (h.len y hy) hlen, dig_lessAt hp _ _ _⟩
      · simp at hx
        subst hx
        exact ⟨by omega, hlen, dig_times hp _ _⟩
    refine ⟨⟨fun x hx => (hall x hx).1, fun x hx => (hall x hx).2.1, fun x hx => (hall x hx).2.2⟩, ?_⟩
    simp only
    rw [(srt_perm _).length_eq]
    simp
theorem sc_with_row : FnScope ["p", "leads", "row", "left", "where", "own", "found", "place", "lead"] ["p", "leads", "row"] (defScope s_with_row) := ⟨rfl, rfl, rfl, by decide +kernel, rfl, by decide +kernel, by decide +kernel⟩
abbrev lv_with_row : Nat := 4
def dom_with_row : List PyData → (PyData → Prop) → Prop := fun ds0 P0 => ∃ (p n : Nat) (L : List (Nat × List Int)) (row : List Int), ds0 = [.int p, leadsD L, rowD row] ∧ (p = 2 ∨ p = 3) ∧ (LOk p n L) ∧ (row.length = n) ∧ (Dig p row) ∧ (n ≤ 1000) ∧ (L.length ≤ 1000) ∧ P0 = (fun z => z = .tuple [leadsD (withRow p L row), .bool (leadAt (red p L row)).isNone])
abbrev sp_with_row (K : PySem.W.Frag) : Sp := SpD K dom_with_row
theorem xc_with_row {K : PySem.W.Frag} {tr : TA} {δ : List Sl} {p n : Nat} {L : List (Nat × List Int)} {row : List Int} (h0 : XAD K tr δ [.int p, leadsD L, rowD row]) (hp : p = 2 ∨ p = 3) (h1 : LOk p n L) (h2 : row.length = n) (h3 : Dig p row) (h4 : n ≤ 1000) (h5 : L.length ≤ 1000) : XD K (tCall (sp_with_row K) [] E0 tr) δ (.tuple [leadsD (withRow p L row), .bool (leadAt (red p L row)).isNone]) := xd_callD h0 ⟨_, _, _, _, rfl, hp, h1, h2, h3, h4, h5, rfl⟩
theorem ok_with_row (D : Df K mg "with_row" s_with_row) (B : Bi mg) (C_led_row : Call1 P w K mg base CX0 lv_led_row "led_row" (sp_led_row K)) (C_less_at : Call1 P w K mg base CX0 lv_less_at "less_at" (sp_less_at K)) (C_place_led : Call1 P w K mg base CX0 lv_place_led "place_led" (sp_place_led K)) : Call1 P w K mg base CX0 lv_with_row "with_row" (sp_with_row K) := by
  refine fun_ok (k := 3) (N := ["p", "leads", "row", "left", "where", "own", "found", "place", "lead"]) (ps := ["p", "leads", "row"]) D sc_with_row (fun ds0 P0 hd => by obtain ⟨p, n, L, row, rfl, hp, h1, h2, h3, h4, h5, rfl⟩ := hd; rfl) (fun _ _ _ _ _ _ us hl => match us, hl with | [_, _, _], _ => rfl) fun f cdv A outer s H E hr => ⟨_, 
    (pss_cons (ps_set (i := 3) sc_with_row.nd rfl (by first | exact Or.inl rfl | exact Or.inr rfl) (pv 2) (hf := (by first | exact Or.inl rfl | exact Or.inr rfl)))
      (pss_cons (ps_for (g := (gTup K 2 (gCons (gName 7) (gCons (gName 8) gNil)))) PassesOwn.never rfl (piList (K := K) (pv 1)) (pgTup (K := K) rfl (pgs_cons (pgN (i := 7) sc_with_row.nd rfl (by first | exact Or.inl rfl | exact Or.inr rfl) (by first | exact Or.inl rfl | exact Or.inr rfl)) (pgs_cons (pgN (i := 8) sc_with_row.nd rfl (by first | exact Or.inl rfl | exact Or.inr rfl) (by first | exact Or.inl rfl | exact Or.inr rfl)) pgs_nil))) (pss_one (ps_set (i := 3) sc_with_row.nd rfl (by first | exact Or.inl rfl | exact Or.inr rfl) (pe_callC C_less_at (hr.mono (by decide)) (by rfl) (pa_cons (pv 0) (pa_cons (pv 3) (pa_cons (pv 8) (pa_cons (pv 7) pa_nil))))) (hf := (by first | exact Or.inl rfl | exact Or.inr rfl)))))
      (pss_cons (ps_set (i := 4) sc_with_row.nd rfl (by first | exact Or.inl rfl | exact Or.inr rfl) (pe_callC C_place_led (hr.mono (by decide)) (by rfl) (pa_cons (pv 3) pa_nil)) (hf := (by first | exact Or.inl rfl | exact Or.inr rfl)))
      (pss_cons (ps_if (pt_cmp (pc_isN (pv 4))) (pss_one (ps_ret (pe_tup (pa_cons (pv 1) (pa_cons pe_bl pa_nil))))) pss_nil)
      (pss_cons (ps_set (i := 5) sc_with_row.nd rfl (by first | exact Or.inl rfl | exact Or.inr rfl) (pe_callC C_led_row (hr.mono (by decide)) (by rfl) (pa_cons (pv 0) (pa_cons (pv 3) pa_nil))) (hf := (by first | exact Or.inl rfl | exact Or.inr rfl)))
      (pss_cons (ps_setLc (i := 6) (own := [("place", 7), ("lead", 8)]) (g := (gTup K 2 (gCons (gName 7) (gCons (gName 8) gNil)))) (tt := tYes) rfl sc_with_row.nd rfl rfl (sw_true rfl rfl rfl (by decide +kernel)) (piList (K := K) (pv 1)) (blkOk_by (N := ["p", "leads", "row", "left", "where", "own", "found", "place", "lead"]) (sc := defScope s_with_row) (by decide +kernel)) (fun _ _ _ _ _ => (pgTup (K := K) rfl (pgs_cons (pgN (i := 7) sc_with_row.nd rfl (by first | exact Or.inl rfl | exact Or.inr rfl) (by first | exact Or.inl rfl | exact Or.inr rfl)) (pgs_cons (pgN (i := 8) sc_with_row.nd rfl (by first | exact Or.inl rfl | exact Or.inr rfl) (by first | exact Or.inl rfl | exact Or.inr rfl)) pgs_nil)))) (fun _ _ _ _ _ => pts_nil) (fun _ _ _ _ _ => (pe_tup (pa_cons (pv 7) (pa_cons (pe_callC C_less_at (hr.mono (by decide)) (by rfl) (pa_cons (pv 0) (pa_cons (pv 8) (pa_cons (pv 5) (pa_cons (pv 4) pa_nil))))) pa_nil)))))
      (pss_one (ps_ret (pe_tup (pa_cons (pe_callB (cSortedP (K := K) hr.units) (by rfl) B.sorted (by decide +kernel) (pa_cons (pe_op op_cat (pv 6) (pe_lst (pa_cons (pe_tup (pa_cons (pv 4) (pa_cons (pv 5) pa_nil))) pa_nil))) pa_nil)) (pa_cons pe_bl pa_nil))))))))))), fun ds0 P0 hd => ?_⟩
  obtain ⟨p, n, L, row, rfl, hp, h1, h2, h3, h4, h5, rfl⟩ := hd
  have p0 : 0 < p := by omega
  obtain ⟨r1, r2⟩ := red_ok p0 h1 h2 h3
  refine sj_seq (sj_asgD (xd_var rfl) ?_)
  refine sj_seq (sj_forT (xs := L) (A := leadD) (xid_list (xd_var rfl)) (fun i δ _ => ∃ s7 s8, δ = [.val (.int p), .val (leadsD L), .val (rowD row), .val (rowD (red p (L.take i) row)), .un, .un, .un, s7, s8]) ⟨.un, .un, rfl⟩ (fun i x δ' m hx iv => ?_) (fun δ' m iv => ?_))
  · obtain ⟨s7, s8, rfl⟩ := iv
    obtain ⟨q1, q2⟩ := red_ok p0 (h1.take i) h2 h3
    have hm := List.mem_of_getElem? hx
    refine ⟨_, [7, 8], xg_tup2, sj_asgD (xc_less_at (xad_cons (xd_var rfl) (xad_cons (xd_var rfl) (xad_cons (xd_var rfl) (xad_cons (xd_var rfl) xad_nil)))) hp q2 (by rw [q1, h1.len x hm]) (by omega) (by rw [q1]; exact h1.lt x hm)) (by rw [red_succ hx]; exact ⟨_, _, rfl⟩)⟩
  · obtain ⟨s7, s8, rfl⟩ := iv
    rw [List.take_length]
    refine sj_seq (sj_asgD (xc_place_led (xad_cons (xd_var rfl) xad_nil) (by omega)) ?_)
    cases e : leadAt (red p L row) with
    | none =>
      rw [show ledD (red p L row) = .none by simp [ledD, e]]
      refine sj_seq (sj_ifT (XT.is (xt_val (xd_isN (xd_var rfl))) rfl) (sj_retD (xd_tup (xad_cons (xd_var rfl) (xad_cons xd_bl xad_nil)) (by simp)) ?_))
      simp [withRow, e]
    | some j =>
      rw [show ledD (red p L row) = .int (j : Nat) by simp [ledD, e]]
      refine sj_seq (sj_ifF (XT.is (xt_val (xd_isN (xd_var rfl))) rfl) (sj_next ?_))
      have hj := lead_lt e
      have hlen : (rowTimes p ((red p L row).getD j 0) (red p L row)).length = n := by rw [len_times, r1]
      refine sj_seq (sj_asgD (xc_led_row (xad_cons (xd_var rfl) (xad_cons (xd_var rfl) xad_nil)) hp r2 e (by omega)) ?_)
      refine sj_seq (sj_asgD (xd_lcMap (xs := L) (A := leadD) (js := [7, 8]) (xid_list (xd_var rfl)) (by simp) (by omega) (fun x hx => xg_tup2) (fun x hx => (xd_tup (xad_cons (xd_var rfl) (xad_cons (xc_less_at (xad_cons (xd_var rfl) (xad_cons (xd_var rfl) (xad_cons (xd_var rfl) (xad_cons (xd_var rfl) xad_nil)))) hp (h1.dig x hx) (by rw [hlen, h1.len x hx]) (by rw [h1.len x hx]; exact h4) (by rw [h1.len x hx, ← r1]; exact hj.1)) xad_nil)) (by simp)))) ?_)
      refine sj_retD (xd_tup (xad_cons (xd_cb (xad_cons ((xd_opN (xd_var rfl) (xd_lst (xad_cons (xd_tup (xad_cons (xd_var rfl) (xad_cons (xd_var rfl) xad_nil)) (by simp)) xad_nil) (by simp)) (rn_cat ?_)).is ?_) xad_nil) (rc_sortedP (bs := L.map (fun x => (x.1, lessAt p x.2 (owned p (red p L row) j) j)) ++ [(j, owned p (red p L row) j)]) ?_)) (xad_cons xd_bl xad_nil)) (by simp)) ?_
      · simp; omega
      · show PyData.list _ = PyData.list (List.map leadD (_ ++ _))
        rw [List.map_append, List.map_map]
        rfl
      · simp; omega
      · simp [withRow, e]
def leadsOf (p : Nat) (rs : List (List Int)) : List (Nat × List Int) := rs.foldl (withRow p) []
theorem leads_succ {p : Nat} {rs : List (List Int)} {i : Nat} {x : List Int} (h : rs[i]? = some x) : leadsOf p (rs.take (i + 1)) = withRow p (leadsOf p (rs.take i)) x := by
  unfold leadsOf
  rw [List.take_succ, h, List.foldl_append]
  rfl
theorem leadsOf_ok {p n : Nat} (hp : 0 < p) {rs : List (List Int)} (h : ∀ r ∈ rs, r.length = n ∧ Dig p r) : ∀ i, i ≤ rs.length → LOk p n (leadsOf p (rs.take i)) ∧ (leadsOf p (rs.take i)).length ≤ i
  | 0, _ => ⟨⟨by simp [leadsOf], by simp [leadsOf], by simp [leadsOf]⟩, by simp [leadsOf]⟩
  | i + 1, hi => by
    obtain ⟨h1, h2⟩ := leadsOf_ok hp h i (by omega)
    have e : rs[i]? = some rs[i] := List.getElem?_eq_getElem (by omega)
    rw [leads_succ e]
    obtain ⟨h3, h4⟩ := withRow_ok hp h1 (h _ (List.getElem_mem _)).1 (h _ (List.getElem_mem _)).2
    exact ⟨h3, by omega⟩
theorem sc_leads_of : FnScope ["p", "rows", "found", "row", "_"] ["p", "rows"] (defScope s_leads_of) := ⟨rfl, rfl, rfl, by decide +kernel, rfl, by decide +kernel, by decide +kernel⟩
abbrev lv_leads_of : Nat := 5
def dom_leads_of : List PyData → (PyData → Prop) → Prop := fun ds0 P0 => ∃ (p n : Nat) (rs : List (List Int)), ds0 = [.int p, .list (rs.map rowD)] ∧ (p = 2 ∨ p = 3) ∧ (∀ r ∈ rs, r.length = n ∧ Dig p r) ∧ (n ≤ 1000) ∧ (rs.length ≤ 1000) ∧ P0 = (fun z => z = leadsD (leadsOf p rs))
abbrev sp_leads_of (K : PySem.W.Frag) : Sp := SpD K dom_leads_of
theorem xc_leads_of {K : PySem.W.Frag} {tr : TA} {δ : List Sl} {p n : Nat} {rs : List (List Int)} (h0 : XAD K tr δ [.int p, .list (rs.map rowD)]) (hp : p = 2 ∨ p = 3) (h1 : ∀ r ∈ rs, r.length = n ∧ Dig p r) (h4 : n ≤ 1000) (h5 : rs.length ≤ 1000) : XD K (tCall (sp_leads_of K) [] E0 tr) δ (leadsD (leadsOf p rs)) := xd_callD h0 ⟨_, _, _, rfl, hp, h1, h4, h5, rfl⟩
theorem ok_leads_of (D : Df K mg "leads_of" s_leads_of) (B : Bi mg) (C_with_row : Call1 P w K mg base CX0 lv_with_row "with_row" (sp_with_row K)) : Call1 P w K mg base CX0 lv_leads_of "leads_of" (sp_leads_of K) := by
  refine fun_ok (k := 4) (N := ["p", "rows", "found", "row", "_"]) (ps := ["p", "rows"]) D sc_leads_of (fun ds0 P0 hd => by obtain ⟨p, n, rs, rfl, hp, h1, h4, h5, rfl⟩ := hd; rfl) (fun _ _ _ _ _ _ us hl => match us, hl with | [_, _], _ => rfl) fun f cdv A outer s H E hr => ⟨_, 
    (pss_cons (ps_set (i := 2) sc_leads_of.nd rfl (by first | exact Or.inl rfl | exact Or.inr rfl) (pe_lst pa_nil) (hf := (by first | exact Or.inl rfl | exact Or.inr rfl)))
      (pss_cons (ps_for (g := (gName 3)) PassesOwn.never rfl (piList (K := K) (pv 1)) (pgN (i := 3) sc_leads_of.nd rfl (by first | exact Or.inl rfl | exact Or.inr rfl) (by first | exact Or.inl rfl | exact Or.inr rfl)) (pss_one (ps_asg (g := (gTup K 2 (gCons (gName 2) (gCons (gName 4) gNil)))) (pe_callC C_with_row (hr.mono (by decide)) (by rfl) (pa_cons (pv 0) (pa_cons (pv 2) (pa_cons (pv 3) pa_nil)))) (pgTup (K := K) rfl (pgs_cons (pgN (i := 2) sc_leads_of.nd rfl (by first | exact Or.inl rfl | exact Or.inr rfl) (by first | exact Or.inl rfl | exact Or.inr rfl)) (pgs_cons (pgN (i := 4) sc_leads_of.nd rfl (by first | exact Or.inl rfl | exact Or.inr rfl) (by first | exact Or.inl rfl | exact Or.inr rfl)) pgs_nil))))))
      (pss_one (ps_ret (pv 2))))), fun ds0 P0 hd => ?_⟩
  obtain ⟨p, n, rs, rfl, hp, h1, h4, h5, rfl⟩ := hd
  have p0 : 0 < p := by omega
  refine sj_seq (sj_asgD (xd_lst xad_nil (by simp)) ?_)
  refine sj_seq (sj_forT (xs := rs) (A := rowD) (xid_list (xd_var rfl)) (fun i δ _ => ∃ s3 s4, δ = [.val (.int p), .val (.list (rs.map rowD)), .val (leadsD (leadsOf p (rs.take i))), s3, s4]) ⟨.un, .un, rfl⟩ (fun i x δ' m hx iv => ?_) (fun δ' m iv => ?_))
  · obtain ⟨s7, s8, rfl⟩ := iv
    have hi := (List.getElem?_eq_some_iff.mp hx).1
    obtain ⟨q1, q2⟩ := leadsOf_ok p0 h1 i (by omega)
    have hm := List.mem_of_getElem? hx
    refine ⟨_, [3], xg_name, sj_asgGD (xc_with_row (xad_cons (xd_var rfl) (xad_cons (xd_var rfl) (xad_cons (xd_var rfl) xad_nil))) hp q1 (h1 x hm).1 (h1 x hm).2 h4 (by omega)) xg_tup2 (by rw [leads_succ hx]; exact ⟨_, _, rfl⟩)⟩
  · obtain ⟨s7, s8, rfl⟩ := iv
    rw [List.take_length]
    exact sj_retD (xd_var rfl) rfl
end
end Dry

set_option Elab.async false
set_option linter.all false
set_option maxRecDepth 100000
set_option maxHeartbeats 4000000
namespace Dry
open PySem PySem.Spec PyProof.Rows L2 RZ
section
variable {P : Program} {w : World} {K : PySem.W.Frag} {mg : Str → Option Value} {base : Heap}
def revLeads (m : Nat) (L : List (Nat × List Int)) : List (Nat × List Int) := L.map fun x => (m - 1 - x.1, x.2.reverse)
def freeRow (p m : Nat) (L : List (Nat × List Int)) (f : Nat) : List Int := L.foldl (fun own x => own.set x.1 (((p : Int) - x.2.getD f 0) % (p : Int))) (unitRow m f)
def leadsB (p m : Nat) (rs : List (List Int)) : List (Nat × List Int) := revLeads m (leadsOf p (rs.map List.reverse))
def isFree (L : List (Nat × List Int)) (f : Nat) : Bool := !(L.map fun x => ((x.1 : Nat) : Int)).contains (f : Int)
def unmarked (p m : Nat) (rs : List (List Int)) : List (List Int) := ((List.range m).filter (isFree (leadsB p m rs))).map (freeRow p m (leadsB p m rs))
theorem freeRow_succ {p m f i : Nat} {L : List (Nat × List Int)} {x : Nat × List Int} (h : L[i]? = some x) : freeRow p m (L.take (i + 1)) f = (freeRow p m (L.take i) f).set x.1 (((p : Int) - x.2.getD f 0) % (p : Int)) := by
  unfold freeRow
  rw [List.take_succ, h, List.foldl_append]
  rfl
theorem len_freeRow {p m f : Nat} : ∀ {L : List (Nat × List Int)}, (freeRow p m L f).length = m := by
  have key : ∀ (L : List (Nat × List Int)) (r : List Int), (L.foldl (fun own x => own.set x.1 (((p : Int) - x.2.getD f 0) % (p : Int))) r).length = r.length := by
    intro L
    induction L with
    | nil => intro r; rfl
    | cons x L ih => intro r; rw [List.foldl_cons, ih, List.length_set]
  intro L
  unfold freeRow
  rw [key]
  simp [unitRow]
theorem rev_ok {p m : Nat} {L : List (Nat × List Int)} (h : LOk p m L) : LOk p m (revLeads m L) := by
  refine ⟨fun x hx => ?_, fun x hx => ?_, fun x hx => ?_⟩ <;> obtain ⟨y, hy, rfl⟩ := List.mem_map.mp hx
  · have := h.lt y hy
    show m - 1 - y.1 < m
    omega
  · simpa using h.len y hy
  · intro z hz
    exact h.dig y hy z (by simpa using hz)
theorem leadsB_ok {p m : Nat} (hp : 0 < p) {rs : List (List Int)} (h : ∀ r ∈ rs, r.length = m ∧ Dig p r) : LOk p m (leadsOf p (rs.map List.reverse)) ∧ (leadsOf p (rs.map List.reverse)).length ≤ rs.length := by
  have h' : ∀ r ∈ rs.map List.reverse, r.length = m ∧ Dig p r := fun r hr => by
    obtain ⟨y, hy, rfl⟩ := List.mem_map.mp hr
    exact ⟨by simpa using (h y hy).1, fun z hz => (h y hy).2 z (by simpa using hz)⟩
  have k := leadsOf_ok hp h' (rs.map List.reverse).length (Nat.le_refl _)
  rw [List.take_length] at k
  simpa using k
theorem sc_unmarked_rows : FnScope ["p", "many", "rows", "leads", "free", "places", "found", "own", "place", "lead", "_"] ["p", "many", "rows"] (defScope s_unmarked_rows) := ⟨rfl, rfl, rfl, by decide +kernel, rfl, by decide +kernel, by decide +kernel⟩
abbrev lv_unmarked_rows : Nat := 7
def dom_unmarked_rows : List PyData → (PyData → Prop) → Prop := fun ds0 P0 => ∃ (p m : Nat) (rs : List (List Int)), ds0 = [.int p, .int m, rowsD rs] ∧ (p = 2 ∨ p = 3) ∧ (∀ r ∈ rs, r.length = m ∧ Dig p r) ∧ (m ≤ 1000) ∧ (rs.length ≤ 1000) ∧ P0 = (fun z => z = rowsD (unmarked p m rs))
abbrev sp_unmarked_rows (K : PySem.W.Frag) : Sp := SpD K dom_unmarked_rows
theorem xc_unmarked_rows {K : PySem.W.Frag} {tr : TA} {δ : List Sl} {p m : Nat} {rs : List (List Int)} (h0 : XAD K tr δ [.int p, .int m, rowsD rs]) (hp : p = 2 ∨ p = 3) (h1 : ∀ r ∈ rs, r.length = m ∧ Dig p r) (h4 : m ≤ 1000) (h5 : rs.length ≤ 1000) : XD K (tCall (sp_unmarked_rows K) [] E0 tr) δ (rowsD (unmarked p m rs)) := xd_callD h0 ⟨_, _, _, rfl, hp, h1, h4, h5, rfl⟩
theorem ok_unmarked_rows (D : Df K mg "unmarked_rows" s_unmarked_rows) (B : Bi mg) (C_fit_rows : Call1 P w K mg base CX0 lv_fit_rows "fit_rows" (sp_fit_rows K)) (C_leads_of : Call1 P w K mg base CX0 lv_leads_of "leads_of" (sp_leads_of K)) (C_tupled : Call1 P w K mg base CX0 lv_tupled "tupled" (sp_tupled K)) (C_unit_row : Call1 P w K mg base CX0 lv_unit_row "unit_row" (sp_unit_row K)) : Call1 P w K mg base CX0 lv_unmarked_rows "unmarked_rows" (sp_unmarked_rows K) := by
  refine fun_ok (k := 6) (N := ["p", "many", "rows", "leads", "free", "places", "found", "own", "place", "lead", "_"]) (ps := ["p", "many", "rows"]) D sc_unmarked_rows (fun ds0 P0 hd => by obtain ⟨p, m, rs, rfl, hp, h1, h4, h5, rfl⟩ := hd; rfl) (fun _ _ _ _ _ _ us hl => match us, hl with | [_, _, _], _ => rfl) fun f cdv A outer s H E hr => ⟨_, 
    (pss_cons (ps_expr (pe_callC C_fit_rows (hr.mono (by decide)) (by rfl) (pa_cons (pv 1) (pa_cons (pv 2) pa_nil))))
      (pss_cons (ps_setLc (i := 3) (own := [("place", 8), ("lead", 9)]) (g := (gTup K 2 (gCons (gName 8) (gCons (gName 9) gNil)))) (tt := tYes) rfl sc_unmarked_rows.nd rfl rfl (sw_true rfl rfl rfl (by decide +kernel)) (piList (K := K) (pe_callC C_leads_of (hr.mono (by decide)) (by rfl) (pa_cons (pv 0) (pa_cons (pe_lc (own := [("own", 7)]) (g := (gName 7)) (tt := tYes) rfl sc_unmarked_rows.nd (piSeq (K := K) (pe_callC C_tupled (hr.mono (by decide)) (by rfl) (pa_cons (pv 2) pa_nil))) (blkOk_by (N := ["p", "many", "rows", "leads", "free", "places", "found", "own", "place", "lead", "_"]) (sc := defScope s_unmarked_rows) (by decide +kernel)) (fun _ _ _ _ _ => (pgN (i := 7) sc_unmarked_rows.nd rfl (by first | exact Or.inl rfl | exact Or.inr rfl) (by first | exact Or.inl rfl | exact Or.inr rfl))) (fun _ _ _ _ _ => pts_nil) (fun _ _ _ _ _ => (pe_revT (K := K) (pv 7)))) pa_nil)))) (blkOk_by (N := ["p", "many", "rows", "leads", "free", "places", "found", "own", "place", "lead", "_"]) (sc := defScope s_unmarked_rows) (by decide +kernel)) (fun _ _ _ _ _ => (pgTup (K := K) rfl (pgs_cons (pgN (i := 8) sc_unmarked_rows.nd rfl (by first | exact Or.inl rfl | exact Or.inr rfl) (by first | exact Or.inl rfl | exact Or.inr rfl)) (pgs_cons (pgN (i := 9) sc_unmarked_rows.nd rfl (by first | exact Or.inl rfl | exact Or.inr rfl) (by first | exact Or.inl rfl | exact Or.inr rfl)) pgs_nil)))) (fun _ _ _ _ _ => pts_nil) (fun _ _ _ _ _ => (pe_tup (pa_cons (pe_op op_sub (pe_op op_sub (pv 1) pe_int) (pv 8)) (pa_cons (pe_revT (K := K) (pv 9)) pa_nil)))))
      (pss_cons (ps_par (i := 5) (j := 6) rfl sc_unmarked_rows.nd rfl rfl (by decide) rfl rfl (pa_cons (pe_lc (own := [("place", 8), ("_", 10)]) (g := (gTup K 2 (gCons (gName 8) (gCons (gName 10) gNil)))) (tt := tYes) rfl sc_unmarked_rows.nd (piList (K := K) (pv 3)) (blkOk_by (N := ["p", "many", "rows", "leads", "free", "places", "found", "own", "place", "lead", "_"]) (sc := defScope s_unmarked_rows) (by decide +kernel)) (fun _ _ _ _ _ => (pgTup (K := K) rfl (pgs_cons (pgN (i := 8) sc_unmarked_rows.nd rfl (by first | exact Or.inl rfl | exact Or.inr rfl) (by first | exact Or.inl rfl | exact Or.inr rfl)) (pgs_cons (pgN (i := 10) sc_unmarked_rows.nd rfl (by first | exact Or.inl rfl | exact Or.inr rfl) (by first | exact Or.inl rfl | exact Or.inr rfl)) pgs_nil)))) (fun _ _ _ _ _ => pts_nil) (fun _ _ _ _ _ => (pv 8))) (pa_cons (pe_lst pa_nil) pa_nil)) (by rfl))
      (pss_cons (ps_for (g := (gName 4)) PassesOwn.never rfl (pi_range1 (by rfl) B.range (pa_cons (pv 1) pa_nil)) (pgN (i := 4) sc_unmarked_rows.nd rfl (by first | exact Or.inl rfl | exact Or.inr rfl) (by first | exact Or.inl rfl | exact Or.inr rfl)) (pss_one (ps_if (pt_cmpR (opNotIn (K := K)) (pv 4) (pv 5) (by rfl)) (pss_cons (ps_set (i := 7) sc_unmarked_rows.nd rfl (by first | exact Or.inl rfl | exact Or.inr rfl) (pe_callTy (cList (K := K)) (by rfl) B.list (by decide +kernel) (pa_cons (pe_callC C_unit_row (hr.mono (by decide)) (by rfl) (pa_cons (pv 1) (pa_cons (pv 4) pa_nil))) pa_nil)) (hf := (by first | exact Or.inl rfl | exact Or.inr rfl)))
      (pss_cons (ps_for (g := (gTup K 2 (gCons (gName 8) (gCons (gName 9) gNil)))) PassesOwn.never rfl (piList (K := K) (pv 3)) (pgTup (K := K) rfl (pgs_cons (pgN (i := 8) sc_unmarked_rows.nd rfl (by first | exact Or.inl rfl | exact Or.inr rfl) (by first | exact Or.inl rfl | exact Or.inr rfl)) (pgs_cons (pgN (i := 9) sc_unmarked_rows.nd rfl (by first | exact Or.inl rfl | exact Or.inr rfl) (by first | exact Or.inl rfl | exact Or.inr rfl)) pgs_nil))) (pss_one (ps_asg (pe_op op_mod (pe_op op_sub (pv 0) (pe_ix (ixT (K := K)) (pv 9) (pv 4) (fun _ _ => rfl))) (pv 0)) (pg_sub (pv 7) (pv 8) set_list))))
      (pss_one (ps_expr (pe_bm PySem.F.plainAttrs_list PySem.F.slot_list_append PySem.F.type_list_append mt_append (pv 6) (pa_cons (pe_callTy (cTuple (K := K)) (by rfl) B.tuple (by decide +kernel) (pa_cons (pv 7) pa_nil)) pa_nil)))))) pss_nil)))
      (pss_one (ps_ret (pe_callTy (cTuple (K := K)) (by rfl) B.tuple (by decide +kernel) (pa_cons (pv 6) pa_nil)))))))), fun ds0 P0 hd => ?_⟩
  obtain ⟨p, m, rs, rfl, hp, h1, h4, h5, rfl⟩ := hd
  have p0 : 0 < p := by omega
  obtain ⟨k1, k2⟩ := leadsB_ok p0 h1
  have k3 := rev_ok k1
  have k4 : (leadsB p m rs).length ≤ 1000 := by simp [leadsB, revLeads]; omega
  refine sj_seq (sj_drop ((xc_fit_rows (xad_cons (xd_var rfl) (xad_cons (xd_var rfl) xad_nil)) (fun r hr => (h1 r hr).1) h5) _) ?_)
  refine sj_seq (sj_asgD (d := leadsD (leadsB p m rs)) (XD.is (xd_lcMap (xs := leadsOf p (rs.map List.reverse)) (A := leadD) (js := [8, 9]) (xid_list (xc_leads_of (rs := rs.map List.reverse) (n := m) (xad_cons (xd_var rfl) (xad_cons ((xd_lcMap (xs := rs) (A := rowD) (js := [7]) (xid_seqT ((xc_tupled (xad_cons (xd_var rfl) xad_nil) (tok_rows (by omega) fun r hr => by rw [(h1 r hr).1]; omega)).is (tup_rows rs))) (by simp) (by omega) (fun x hx => xg_name) (fun x hx => (xd_revE (xd_var rfl)))).is (by rw [List.map_map]; rfl)) xad_nil)) hp (fun r hr => by
      obtain ⟨y, hy, rfl⟩ := List.mem_map.mp hr
      exact ⟨by simpa using (h1 y hy).1, fun z hz => (h1 y hy).2 z (by simpa using hz)⟩) h4 (by simpa using h5))) (by simp) (by omega) (fun x hx => xg_tup2) (fun x hx => (xd_tup (xad_cons (xd_op (xd_op (xd_var rfl) xd_int rd_I0) (xd_var rfl) rd_I0) (xad_cons (xd_revE (xd_var rfl)) xad_nil)) (by simp)))) ?_) ?_)
  · show PyData.list _ = PyData.list (List.map leadD (List.map _ _))
    rw [List.map_map]
    congr 1
    apply List.map_congr_left
    intro x hx
    have := k1.lt x hx
    show PyData.tuple [.int ((m : Int) - 1 - (x.1 : Int)), rowD x.2.reverse] = PyData.tuple [.int ((m - 1 - x.1 : Nat) : Int), rowD x.2.reverse]
    rw [show (m : Int) - 1 - (x.1 : Int) = ((m - 1 - x.1 : Nat) : Int) by omega]
  rw [show revLeads m (leadsOf p (rs.map List.reverse)) = leadsB p m rs from rfl] at k3
  generalize hLB : leadsB p m rs = LB at k3 k4
  refine sj_seq (sj_par (xs_val ((xd_lcMap (xs := LB) (A := leadD) (js := [8, 10]) (xid_list (xd_var rfl)) (by simp) (by omega) (fun x hx => xg_tup2) (fun x hx => (xd_var rfl))) _)) (xs_own (xn_lst xa_nil (fun ds e => by rw [e]; simp))) fun s s' ⟨d, e1, e2⟩ ⟨ds, e3, e4⟩ => ?_)
  subst e1 e2 e3 e4
  refine sj_seq (sj_forT (xs := List.range m) (A := fun i : Nat => PyData.int (i : Int)) (xid_rangeN (xad_cons (xd_var rfl) xad_nil) (by omega)) (fun i δ _ => ∃ s4 s7 s8 s9 s10, δ = [.val (.int p), .val (.int m), .val (rowsD rs), .val (leadsD LB), s4, .val (.list (LB.map fun x => .int (x.1 : Nat))), .own ((((List.range i).filter (isFree LB)).map (freeRow p m LB)).map rowD), s7, s8, s9, s10]) ⟨.un, .un, .un, .un, .un, rfl⟩ (fun i x δ' n' hx iv => ?_) (fun δ' n' iv => ?_))
  · obtain ⟨s4, s7, s8, s9, s10, rfl⟩ := iv
    have hi : i < m := by
      have := (List.getElem?_eq_some_iff.mp hx).1
      simpa using this
    rw [List.getElem?_range hi] at hx
    cases hx
    refine ⟨_, [4], xg_name, sj_if (b := isFree LB i) (xt_test (xd_op (e := .list ((LB.map fun x => ((x.1 : Nat) : Int)).map PyData.int)) (xd_var rfl) ((xd_var rfl).is (by rw [List.map_map]; rfl)) rd_notInL)) (fun hb => ?_) (fun hb => ?_)⟩
    · refine sj_seq (sj_asgN (xn_cb (xad_cons (xc_unit_row (xad_cons (xd_var rfl) (xad_cons (xd_var rfl) xad_nil)) hi h4) xad_nil _) (fun ds e => by rw [e]; exact rcn_listT)) fun ds e => ?_)
      subst e
      refine sj_seq (sj_forT (xs := LB) (A := leadD) (xid_list (xd_var rfl)) (fun j δ _ => ∃ s8 s9, δ = [.val (.int p), .val (.int m), .val (rowsD rs), .val (leadsD LB), .val (.int i), .val (.list (LB.map fun x => .int (x.1 : Nat))), .own ((((List.range i).filter (isFree LB)).map (freeRow p m LB)).map rowD), .own ((freeRow p m (LB.take j) i).map PyData.int), s8, s9, s10]) ⟨_, _, rfl⟩ (fun j x δ' n'' hx iv => ?_) (fun δ' n'' iv => ?_))
      · obtain ⟨t8, t9, rfl⟩ := iv
        have hm := List.mem_of_getElem? hx
        refine ⟨_, [8, 9], xg_tup2, sj_setL (i := 7) (j := x.1) (z := ((x.1 : Nat) : Int)) rfl ((xd_op (xd_op (xd_var rfl) (xd_op (xd_var rfl) (xd_var rfl) (rd_ixG 0 ?_)) rd_I0) (xd_var rfl) (rd_I ?_)) _) (xd_var rfl) ?_ fun d e => ?_⟩
        · rw [k3.len x hm]; exact hi
        · exact pp hp
        · exact ixN_nat (by rw [List.length_map, len_freeRow]; exact k3.lt x hm)
        · subst e
          rw [freeRow_succ hx, List.map_set]
          exact ⟨_, _, rfl⟩
      · obtain ⟨t8, t9, rfl⟩ := iv
        rw [List.take_length]
        refine sj_freeze (i := 7) rfl (sj_append (i := 6) rfl ((xd_cb (xad_cons (xd_var rfl) xad_nil) rc_tupleL) _) ?_ fun d e => ?_)
        · simp
          have := List.length_filter_le (isFree LB) (List.range i)
          simp at this
          omega
        · subst e
          have hs : (((List.range (i + 1)).filter (isFree LB)).map (freeRow p m LB)).map rowD = (((List.range i).filter (isFree LB)).map (freeRow p m LB)).map rowD ++ [rowD (freeRow p m LB i)] := by
            rw [List.range_succ, List.filter_append, List.map_append, List.map_append]
            simp only [List.filter_cons, hb, if_true, List.filter_nil, List.map_cons, List.map_nil]
          rw [hs]
          exact ⟨_, _, _, _, _, rfl⟩
    · have hs : (((List.range (i + 1)).filter (isFree LB)).map (freeRow p m LB)).map rowD = (((List.range i).filter (isFree LB)).map (freeRow p m LB)).map rowD := by
        rw [List.range_succ, List.filter_append]
        simp only [List.filter_cons, hb, List.filter_nil, Bool.false_eq_true, if_false, List.append_nil]
      refine sj_next (by rw [hs]; exact ⟨_, _, _, _, _, rfl⟩)
  · obtain ⟨s4, s7, s8, s9, s10, rfl⟩ := iv
    refine sj_freeze (i := 6) rfl (sj_retD (xd_cb (xad_cons (xd_var rfl) xad_nil) rc_tupleL) ?_)
    rw [List.length_range]
    unfold unmarked
    rw [hLB]
end
end Dry

set_option Elab.async false
set_option linter.all false
set_option maxRecDepth 100000
set_option maxHeartbeats 4000000
namespace Dry
open PySem PySem.Spec PyProof.Rows L2 RZ
section
variable {P : Program} {w : World} {K : PySem.W.Frag} {mg : Str → Option Value} {base : Heap}
def k0 : Ky := ⟨0, 0, []⟩
structure KOk (p n : Nat) (k : Ky) : Prop where
  pp : k.p = p
  mm : k.m ≤ 300
  nn : k.cols.length = n
  col : ∀ c ∈ k.cols, c.length = k.m ∧ Dig p c
structure KsOk (p n : Nat) (ks : List Ky) : Prop where
  hp : p = 2 ∨ p = 3
  n0 : 0 < n
  n1 : n ≤ 10
  ne : ks ≠ []
  len : ks.length ≤ 10
  all : ∀ k ∈ ks, KOk p n k ∧ k.m ≤ 10
theorem isMsg_aux {p m : Nat} {r : List Int} (h : Dig p r) : (r.map PyData.int).all (fun x => isBelow x (p : Int)) = true := by
  rw [List.all_map]
  exact all_below h
theorem isRow_ok {p : Nat} {r : List Int} (h : Dig p r) : isRow p (rowD r) = true := isMsg_aux (m := 0) h
theorem tup_key (k : Ky) : tup (keyD k) = keyD k := by
  have e : tup (keyD k) = .tuple [tup (.int k.p), tup (.int k.m), tup (rowsD k.cols)] := by
    rw [tup, tupAll, tupAll, tupAll, tupAll]
  rw [e, tup_rows]
  simp only [tup]
theorem tup_keys (ks : List Ky) : tup (keysD ks) = keysD ks := by
  simp only [tup, tupAll_map, List.map_map, PyData.tuple.injEq]
  apply List.map_congr_left
  intro r _
  exact tup_key r
theorem tok_key {p n j : Nat} {k : Ky} (h : KOk p n k) (hn : n ≤ 10) : TOk (j + 4) (keyD k) := tok_tup (by simp) fun x hx => by
  have := h.nn
  have := h.mm
  simp only [List.mem_cons, List.not_mem_nil, or_false] at hx
  rcases hx with rfl | rfl | rfl
  · trivial
  · trivial
  · exact tok_rows (by omega) fun r hr => by rw [(h.col r hr).1]; omega
theorem tok_keys {p n j : Nat} {ks : List Ky} (h : KsOk p n ks) : TOk (j + 5) (keysD ks) := tok_tup (by rw [List.length_map]; have := h.len; omega) fun x hx => by
  obtain ⟨k, hk, rfl⟩ := List.mem_map.mp hx
  exact tok_key (h.all k hk).1 h.n1
theorem sc_are_rows_of : FnScope ["p", "many", "thing", "own"] ["p", "many", "thing"] (defScope s_are_rows_of) := ⟨rfl, rfl, rfl, by decide +kernel, rfl, by decide +kernel, by decide +kernel⟩
abbrev lv_are_rows_of : Nat := 5
def dom_are_rows_of : List PyData → (PyData → Prop) → Prop := fun ds0 P0 => ∃ (p m : Nat) (rs : List (List Int)), ds0 = [.int p, .int m, rowsD rs] ∧ (∀ r ∈ rs, r.length = m ∧ Dig p r) ∧ (rs ≠ []) ∧ (rs.length ≤ 1000) ∧ (m ≤ 1000) ∧ P0 = (fun z => z = .bool true)
abbrev sp_are_rows_of (K : PySem.W.Frag) : Sp := SpD K dom_are_rows_of
theorem xc_are_rows_of {K : PySem.W.Frag} {tr : TA} {δ : List Sl} {p m : Nat} {rs : List (List Int)} (h0 : XAD K tr δ [.int p, .int m, rowsD rs]) (h1 : ∀ r ∈ rs, r.length = m ∧ Dig p r) (h2 : rs ≠ []) (h3 : rs.length ≤ 1000) (h4 : m ≤ 1000) : XD K (tCall (sp_are_rows_of K) [] E0 tr) δ (.bool true) := xd_callD h0 ⟨_, _, _, rfl, h1, h2, h3, h4, rfl⟩
theorem ok_are_rows_of (D : Df K mg "are_rows_of" s_are_rows_of) (B : Bi mg) (C_is_row : Call1 P w K mg base CX0 lv_is_row "is_row" (sp_is_row K)) : Call1 P w K mg base CX0 lv_are_rows_of "are_rows_of" (sp_are_rows_of K) := by
  refine fun_ok (k := 4) (N := ["p", "many", "thing", "own"]) (ps := ["p", "many", "thing"]) D sc_are_rows_of (fun ds0 P0 hd => by obtain ⟨p, m, rs, rfl, h1, h2, h3, h4, rfl⟩ := hd; rfl) (fun _ _ _ _ _ _ us hl => match us, hl with | [_, _, _], _ => rfl) fun f cdv A outer s H E hr => ⟨_, 
    (pss_one (ps_ret (pe_and (pe_callB (cIsi (K := K)) (by rfl) B.isinstance (by decide +kernel) (pa_cons (pv 2) (pa_cons (pe_bltn (v := .ty "tuple") (by rfl) B.tuple (by decide +kernel) rfl) pa_nil))) (pe_and (pe_cmpR (opNeD (K := K) hr.units) (pv 2) (pe_tup pa_nil) (nomark _)) (pe_one (pe_callB (cAll (K := K) rfl) (by rfl) B.all (by decide +kernel) (pa_cons (pe_lc (own := [("own", 3)]) (g := (gName 3)) (tt := tYes) rfl sc_are_rows_of.nd (piTup (K := K) (pv 2)) (blkOk_by (N := ["p", "many", "thing", "own"]) (sc := defScope s_are_rows_of) (by decide +kernel)) (fun _ _ _ _ _ => (pgN (i := 3) sc_are_rows_of.nd rfl (by first | exact Or.inl rfl | exact Or.inr rfl) (by first | exact Or.inl rfl | exact Or.inr rfl))) (fun _ _ _ _ _ => pts_nil) (fun _ _ _ _ _ => (pe_and (pe_callC C_is_row (hr.mono (by decide)) (by rfl) (pa_cons (pv 0) (pa_cons (pv 3) pa_nil))) (pe_one (pe_cmpR op_eq (pe_callB (cLen (K := K)) (by rfl) B.len PySem.boot_len (pa_cons (pv 3) pa_nil)) (pv 1) (nomark _)))))) pa_nil))))))), fun ds0 P0 hd => ?_⟩
  obtain ⟨p, m, rs, rfl, h1, h2, h3, h4, rfl⟩ := hd
  refine sj_retD (xd_andT (xd_isi (xd_var rfl) kit_tuple) (xd_andT ((xd_op (xd_var rfl) (xd_tup xad_nil (by simp)) (rd_neD ?_ ?_)).is ?_) (xd_cb (xad_cons (xd_lcMap (xs := rs) (A := rowD) (F := fun _ => .bool true) (js := [3]) (xid_tup (xd_var rfl)) (by simp) ?_ (fun x hx => xg_name) (fun x hx => (xd_andT ((xc_is_row (xad_cons (xd_var rfl) (xad_cons (xd_var rfl) xad_nil)) ?_).is ?_) ((xd_op (xd_cb (xad_cons (xd_var rfl) xad_nil) rc_lenE) (xd_var rfl) rd_eqI).is ?_)))) xad_nil) (rc_allE (t := fun _ => true))))) ?_
  · exact (sh_rows _).ok
  · exact sh_nilT.ok
  · rw [eqv_nilT]
    cases rs with
    | nil => exact absurd rfl h2
    | cons r rs => rfl
  · omega
  · intro ds e
    cases e
    rw [List.length_map, (h1 x hx).1]
    exact h4
  · rw [isRow_ok (h1 x hx).2]
  · simp [(h1 x hx).1]
  · simp
theorem sc_is_key : FnScope ["thing"] ["thing"] (defScope s_is_key) := ⟨rfl, rfl, rfl, by decide +kernel, rfl, by decide +kernel, by decide +kernel⟩
abbrev lv_is_key : Nat := 6
def dom_is_key : List PyData → (PyData → Prop) → Prop := fun ds0 P0 => ∃ (p n : Nat) (k : Ky), ds0 = [keyD k] ∧ (p = 2 ∨ p = 3) ∧ (KOk p n k) ∧ (0 < n ∧ n ≤ 10) ∧ P0 = (fun z => z = .bool true)
abbrev sp_is_key (K : PySem.W.Frag) : Sp := SpD K dom_is_key
theorem xc_is_key {K : PySem.W.Frag} {tr : TA} {δ : List Sl} {p n : Nat} {k : Ky} (h0 : XAD K tr δ [keyD k]) (hp : p = 2 ∨ p = 3) (h1 : KOk p n k) (h2 : 0 < n ∧ n ≤ 10) : XD K (tCall (sp_is_key K) [] E0 tr) δ (.bool true) := xd_callD h0 ⟨_, _, _, rfl, hp, h1, h2, rfl⟩
theorem ok_is_key (D : Df K mg "is_key" s_is_key) (B : Bi mg) (C_are_rows_of : Call1 P w K mg base CX0 lv_are_rows_of "are_rows_of" (sp_are_rows_of K)) (C_is_count : Call1 P w K mg base CX0 lv_is_count "is_count" (sp_is_count K)) (C_is_prime : Call1 P w K mg base CX0 lv_is_prime "is_prime" (sp_is_prime K)) (C_is_tuple_of : Call1 P w K mg base CX0 lv_is_tuple_of "is_tuple_of" (sp_is_tuple_of K)) : Call1 P w K mg base CX0 lv_is_key "is_key" (sp_is_key K) := by
  refine fun_ok (k := 5) (N := ["thing"]) (ps := ["thing"]) D sc_is_key (fun ds0 P0 hd => by obtain ⟨p, n, k, rfl, hp, h1, h2, rfl⟩ := hd; rfl) (fun _ _ _ _ _ _ us hl => match us, hl with | [_], _ => rfl) fun f cdv A outer s H E hr => ⟨_, 
    (pss_cons (ps_if (PW.pt (pw_or (pt_not (pt_val (pe_callC C_is_tuple_of (hr.mono (by decide)) (by rfl) (pa_cons (pv 0) (pa_cons pe_int pa_nil))))) (pw_or (pt_not (pt_val (pe_callC C_is_prime (hr.mono (by decide)) (by rfl) (pa_cons (pe_ix (ixT (K := K)) (pv 0) pe_int (fun _ _ => rfl)) pa_nil)))) (pw_or1 (pt_not (pt_val (pe_callC C_is_count (hr.mono (by decide)) (by rfl) (pa_cons (pe_ix (ixT (K := K)) (pv 0) pe_int (fun _ _ => rfl)) pa_nil)))))))) (pss_one (ps_ret pe_bl)) pss_nil)
      (pss_one (ps_ret (pe_callC C_are_rows_of (hr.mono (by decide)) (by rfl) (pa_cons (pe_ix (ixT (K := K)) (pv 0) pe_int (fun _ _ => rfl)) (pa_cons (pe_ix (ixT (K := K)) (pv 0) pe_int (fun _ _ => rfl)) (pa_cons (pe_ix (ixT (K := K)) (pv 0) pe_int (fun _ _ => rfl)) pa_nil))))))), fun ds0 P0 hd => ?_⟩
  obtain ⟨p, n, k, rfl, hp, h1, h2, rfl⟩ := hd
  obtain ⟨kp, km, kc⟩ := k
  obtain ⟨q1, q2, q3, q4⟩ := h1
  simp only at q1 q2 q3 q4
  subst q1
  refine sj_seq (sj_ifF (XT.is (xt_or (b := false) (c := false) (xt_not (b := true) (xt_val ((xc_is_tuple_of (xad_cons (xd_var rfl) (xad_cons xd_int xad_nil))).is ?_))) fun _ => (xt_or (b := false) (c := false) (xt_not (b := true) (xt_val (xc_is_prime (xad_cons (xd_op (xd_var rfl) xd_int (rd_ixT rfl)) xad_nil) hp))) fun _ => (xt_not (b := true) (xt_val ((xc_is_count (xad_cons (xd_op (xd_var rfl) xd_int (rd_ixT rfl)) xad_nil)).is ?_))))) rfl) (sj_next ?_))
  · rfl
  · simp [isCnt]
  · refine sj_retD (xc_are_rows_of (xad_cons (xd_op (xd_var rfl) xd_int (rd_ixT rfl)) (xad_cons (xd_op (xd_var rfl) xd_int (rd_ixT rfl)) (xad_cons (xd_op (xd_var rfl) xd_int (rd_ixT rfl)) xad_nil))) ?_ ?_ ?_ ?_) rfl
    · exact q4
    · intro e
      have e' : kc = [] := e
      rw [e'] at q3
      simp at q3
      omega
    · show kc.length ≤ 1000
      omega
    · show km ≤ 1000
      omega
theorem sc_is_message : FnScope ["key", "thing"] ["key", "thing"] (defScope s_is_message) := ⟨rfl, rfl, rfl, by decide +kernel, rfl, by decide +kernel, by decide +kernel⟩
def isMsg (k : Ky) : PyData → Bool
  | .tuple ds => (ds.all fun x => isBelow x k.p) && decide ((ds.length : Int) = k.m)
  | _ => false
abbrev lv_is_message : Nat := 5
def dom_is_message : List PyData → (PyData → Prop) → Prop := fun ds0 P0 => ∃ (k : Ky) (d : PyData), ds0 = [keyD k, d] ∧ (∀ ds, d = .tuple ds → ds.length ≤ 1000) ∧ P0 = (fun z => z = .bool (isMsg k d))
abbrev sp_is_message (K : PySem.W.Frag) : Sp := SpD K dom_is_message
theorem xc_is_message {K : PySem.W.Frag} {tr : TA} {δ : List Sl} {k : Ky} {d : PyData} (h0 : XAD K tr δ [keyD k, d]) (h1 : ∀ ds, d = .tuple ds → ds.length ≤ 1000) : XD K (tCall (sp_is_message K) [] E0 tr) δ (.bool (isMsg k d)) := xd_callD h0 ⟨_, _, rfl, h1, rfl⟩
theorem ok_is_message (D : Df K mg "is_message" s_is_message) (B : Bi mg) (C_is_row : Call1 P w K mg base CX0 lv_is_row "is_row" (sp_is_row K)) : Call1 P w K mg base CX0 lv_is_message "is_message" (sp_is_message K) := by
  refine fun_ok (k := 4) (N := ["key", "thing"]) (ps := ["key", "thing"]) D sc_is_message (fun ds0 P0 hd => by obtain ⟨k, d, rfl, h1, rfl⟩ := hd; rfl) (fun _ _ _ _ _ _ us hl => match us, hl with | [_, _], _ => rfl) fun f cdv A outer s H E hr => ⟨_, 
    (pss_one (ps_ret (pe_and (pe_callC C_is_row (hr.mono (by decide)) (by rfl) (pa_cons (pe_ix (ixT (K := K)) (pv 0) pe_int (fun _ _ => rfl)) (pa_cons (pv 1) pa_nil))) (pe_one (pe_cmpR op_eq (pe_callB (cLen (K := K)) (by rfl) B.len PySem.boot_len (pa_cons (pv 1) pa_nil)) (pe_ix (ixT (K := K)) (pv 0) pe_int (fun _ _ => rfl)) (nomark _)))))), fun ds0 P0 hd => ?_⟩
  obtain ⟨k, d, rfl, h1, rfl⟩ := hd
  cases d with
  | tuple ds => exact sj_retD (xd_and (xc_is_row (xad_cons (xd_op (xd_var rfl) xd_int (rd_ixT rfl)) (xad_cons (xd_var rfl) xad_nil)) h1) fun _ => (xd_op (xd_cb (xad_cons (xd_var rfl) xad_nil) rc_lenT) (xd_op (xd_var rfl) xd_int (rd_ixT rfl)) rd_eqI)) rfl
  | none => exact sj_retD (xd_andF (xc_is_row (xad_cons (xd_op (xd_var rfl) xd_int (rd_ixT rfl)) (xad_cons (xd_var rfl) xad_nil)) h1)) rfl
  | bool i => exact sj_retD (xd_andF (xc_is_row (xad_cons (xd_op (xd_var rfl) xd_int (rd_ixT rfl)) (xad_cons (xd_var rfl) xad_nil)) h1)) rfl
  | str i => exact sj_retD (xd_andF (xc_is_row (xad_cons (xd_op (xd_var rfl) xd_int (rd_ixT rfl)) (xad_cons (xd_var rfl) xad_nil)) h1)) rfl
  | list i => exact sj_retD (xd_andF (xc_is_row (xad_cons (xd_op (xd_var rfl) xd_int (rd_ixT rfl)) (xad_cons (xd_var rfl) xad_nil)) h1)) rfl
  | int i => exact sj_retD (xd_andF (xc_is_row (xad_cons (xd_op (xd_var rfl) xd_int (rd_ixT rfl)) (xad_cons (xd_var rfl) xad_nil)) h1)) rfl
  | dict i => exact sj_retD (xd_andF (xc_is_row (xad_cons (xd_op (xd_var rfl) xd_int (rd_ixT rfl)) (xad_cons (xd_var rfl) xad_nil)) h1)) rfl
theorem sc_sure_like : FnScope ["one", "other", "near", "far"] ["one", "other"] (defScope s_sure_like) := ⟨rfl, rfl, rfl, by decide +kernel, rfl, by decide +kernel, by decide +kernel⟩
abbrev lv_sure_like : Nat := 7
def dom_sure_like : List PyData → (PyData → Prop) → Prop := fun ds0 P0 => ∃ (p n : Nat) (k l : Ky), ds0 = [keyD k, keyD l] ∧ (KOk p n k) ∧ (KOk p n l) ∧ (n ≤ 10) ∧ P0 = (fun z => z = .tuple [keyD k, keyD l])
abbrev sp_sure_like (K : PySem.W.Frag) : Sp := SpD K dom_sure_like
theorem xc_sure_like {K : PySem.W.Frag} {tr : TA} {δ : List Sl} {p n : Nat} {k l : Ky} (h0 : XAD K tr δ [keyD k, keyD l]) (h1 : KOk p n k) (h2 : KOk p n l) (h3 : n ≤ 10) : XD K (tCall (sp_sure_like K) [] E0 tr) δ (.tuple [keyD k, keyD l]) := xd_callD h0 ⟨_, _, _, _, rfl, h1, h2, h3, rfl⟩
theorem ok_sure_like (D : Df K mg "sure_like" s_sure_like) (B : Bi mg) (C_tupled : Call1 P w K mg base CX0 lv_tupled "tupled" (sp_tupled K)) : Call1 P w K mg base CX0 lv_sure_like "sure_like" (sp_sure_like K) := by
  refine fun_ok (k := 6) (N := ["one", "other", "near", "far"]) (ps := ["one", "other"]) D sc_sure_like (fun ds0 P0 hd => by obtain ⟨p, n, k, l, rfl, h1, h2, h3, rfl⟩ := hd; rfl) (fun _ _ _ _ _ _ us hl => match us, hl with | [_, _], _ => rfl) fun f cdv A outer s H E hr => ⟨_, 
    (pss_cons (ps_par (i := 2) (j := 3) rfl sc_sure_like.nd rfl rfl (by decide) rfl rfl (pa_cons (pe_callC C_tupled (hr.mono (by decide)) (by rfl) (pa_cons (pv 0) pa_nil)) (pa_cons (pe_callC C_tupled (hr.mono (by decide)) (by rfl) (pa_cons (pv 1) pa_nil)) pa_nil)) (by rfl))
      (pss_cons (ps_if (pt_cmpR op_ne (pe_callB (cLen (K := K)) (by rfl) B.len PySem.boot_len (pa_cons (pe_ix (ixT (K := K)) (pv 2) pe_int (fun _ _ => rfl)) pa_nil)) (pe_callB (cLen (K := K)) (by rfl) B.len PySem.boot_len (pa_cons (pe_ix (ixT (K := K)) (pv 3) pe_int (fun _ _ => rfl)) pa_nil)) (nomark _)) (pss_one ps_never) pss_nil)
      (pss_one (ps_ret (pe_tup (pa_cons (pv 2) (pa_cons (pv 3) pa_nil))))))), fun ds0 P0 hd => ?_⟩
  obtain ⟨p, n, k, l, rfl, h1, h2, h3, rfl⟩ := hd
  refine sj_seq (sj_par (xs_val (((xc_tupled (xad_cons (xd_var rfl) xad_nil) (tok_key h1 h3)).is (tup_key k)) _)) (xs_val (((xc_tupled (xad_cons (xd_var rfl) xad_nil) (tok_key h2 h3)).is (tup_key l)) _)) fun s s' ⟨d, e1, e2⟩ ⟨ds, e3, e4⟩ => ?_)
  subst e1 e2 e3 e4
  refine sj_seq (sj_ifF (XT.is (xt_test (xd_op (xd_cb (xad_cons (xd_op (xd_var rfl) xd_int (rd_ixT rfl)) xad_nil) rc_lenE) (xd_cb (xad_cons (xd_op (xd_var rfl) xd_int (rd_ixT rfl)) xad_nil) rc_lenE) rd_neI)) ?_) (sj_next ?_))
  · simp [h1.nn, h2.nn]
  · exact sj_retD (xd_tup (xad_cons (xd_var rfl) (xad_cons (xd_var rfl) xad_nil)) (by simp)) rfl
theorem sc_sure_kin : FnScope ["one", "other", "near", "far"] ["one", "other"] (defScope s_sure_kin) := ⟨rfl, rfl, rfl, by decide +kernel, rfl, by decide +kernel, by decide +kernel⟩
abbrev lv_sure_kin : Nat := 8
def dom_sure_kin : List PyData → (PyData → Prop) → Prop := fun ds0 P0 => ∃ (p n : Nat) (k l : Ky), ds0 = [keyD k, keyD l] ∧ (KOk p n k) ∧ (KOk p n l) ∧ (n ≤ 10) ∧ P0 = (fun z => z = .tuple [keyD k, keyD l])
abbrev sp_sure_kin (K : PySem.W.Frag) : Sp := SpD K dom_sure_kin
theorem xc_sure_kin {K : PySem.W.Frag} {tr : TA} {δ : List Sl} {p n : Nat} {k l : Ky} (h0 : XAD K tr δ [keyD k, keyD l]) (h1 : KOk p n k) (h2 : KOk p n l) (h3 : n ≤ 10) : XD K (tCall (sp_sure_kin K) [] E0 tr) δ (.tuple [keyD k, keyD l]) := xd_callD h0 ⟨_, _, _, _, rfl, h1, h2, h3, rfl⟩
theorem ok_sure_kin (D : Df K mg "sure_kin" s_sure_kin) (B : Bi mg) (C_sure_like : Call1 P w K mg base CX0 lv_sure_like "sure_like" (sp_sure_like K)) : Call1 P w K mg base CX0 lv_sure_kin "sure_kin" (sp_sure_kin K) := by
  refine fun_ok (k := 7) (N := ["one", "other", "near", "far"]) (ps := ["one", "other"]) D sc_sure_kin (fun ds0 P0 hd => by obtain ⟨p, n, k, l, rfl, h1, h2, h3, rfl⟩ := hd; rfl) (fun _ _ _ _ _ _ us hl => match us, hl with | [_, _], _ => rfl) fun f cdv A outer s H E hr => ⟨_, 
    (pss_cons (ps_asg (g := (gTup K 2 (gCons (gName 2) (gCons (gName 3) gNil)))) (pe_callC C_sure_like (hr.mono (by decide)) (by rfl) (pa_cons (pv 0) (pa_cons (pv 1) pa_nil))) (pgTup (K := K) rfl (pgs_cons (pgN (i := 2) sc_sure_kin.nd rfl (by first | exact Or.inl rfl | exact Or.inr rfl) (by first | exact Or.inl rfl | exact Or.inr rfl)) (pgs_cons (pgN (i := 3) sc_sure_kin.nd rfl (by first | exact Or.inl rfl | exact Or.inr rfl) (by first | exact Or.inl rfl | exact Or.inr rfl)) pgs_nil))))
      (pss_cons (ps_if (pt_cmpR op_ne (pe_ix (ixT (K := K)) (pv 2) pe_int (fun _ _ => rfl)) (pe_ix (ixT (K := K)) (pv 3) pe_int (fun _ _ => rfl)) (nomark _)) (pss_one ps_never) pss_nil)
      (pss_one (ps_ret (pe_tup (pa_cons (pv 2) (pa_cons (pv 3) pa_nil))))))), fun ds0 P0 hd => ?_⟩
  obtain ⟨p, n, k, l, rfl, h1, h2, h3, rfl⟩ := hd
  refine sj_seq (sj_asgGD (xc_sure_like (xad_cons (xd_var rfl) (xad_cons (xd_var rfl) xad_nil)) h1 h2 h3) xg_tup2 ?_)
  refine sj_seq (sj_ifF (XT.is (xt_test (xd_op (xd_op (xd_var rfl) xd_int (rd_ixT rfl)) (xd_op (xd_var rfl) xd_int (rd_ixT rfl)) rd_neI)) ?_) (sj_next ?_))
  · simp [h1.pp, h2.pp]
  · exact sj_retD (xd_tup (xad_cons (xd_var rfl) (xad_cons (xd_var rfl) xad_nil)) (by simp)) rfl
theorem sc_stacked : FnScope ["one", "other", "near", "far", "own", "its"] ["one", "other"] (defScope s_stacked) := ⟨rfl, rfl, rfl, by decide +kernel, rfl, by decide +kernel, by decide +kernel⟩
def stack (k l : Ky) : Ky := ⟨k.p, k.m + l.m, (k.cols.zip l.cols).map fun x => x.1 ++ x.2⟩
abbrev lv_stacked : Nat := 9
def dom_stacked : List PyData → (PyData → Prop) → Prop := fun ds0 P0 => ∃ (p n : Nat) (k l : Ky), ds0 = [keyD k, keyD l] ∧ (KOk p n k) ∧ (KOk p n l) ∧ (n ≤ 10) ∧ P0 = (fun z => z = keyD (stack k l))
abbrev sp_stacked (K : PySem.W.Frag) : Sp := SpD K dom_stacked
theorem xc_stacked {K : PySem.W.Frag} {tr : TA} {δ : List Sl} {p n : Nat} {k l : Ky} (h0 : XAD K tr δ [keyD k, keyD l]) (h1 : KOk p n k) (h2 : KOk p n l) (h3 : n ≤ 10) : XD K (tCall (sp_stacked K) [] E0 tr) δ (keyD (stack k l)) := xd_callD h0 ⟨_, _, _, _, rfl, h1, h2, h3, rfl⟩
theorem ok_stacked (D : Df K mg "stacked" s_stacked) (B : Bi mg) (C_sure_kin : Call1 P w K mg base CX0 lv_sure_kin "sure_kin" (sp_sure_kin K)) : Call1 P w K mg base CX0 lv_stacked "stacked" (sp_stacked K) := by
  refine fun_ok (k := 8) (N := ["one", "other", "near", "far", "own", "its"]) (ps := ["one", "other"]) D sc_stacked (fun ds0 P0 hd => by obtain ⟨p, n, k, l, rfl, h1, h2, h3, rfl⟩ := hd; rfl) (fun _ _ _ _ _ _ us hl => match us, hl with | [_, _], _ => rfl) fun f cdv A outer s H E hr => ⟨_, 
    (pss_cons (ps_asg (g := (gTup K 2 (gCons (gName 2) (gCons (gName 3) gNil)))) (pe_callC C_sure_kin (hr.mono (by decide)) (by rfl) (pa_cons (pv 0) (pa_cons (pv 1) pa_nil))) (pgTup (K := K) rfl (pgs_cons (pgN (i := 2) sc_stacked.nd rfl (by first | exact Or.inl rfl | exact Or.inr rfl) (by first | exact Or.inl rfl | exact Or.inr rfl)) (pgs_cons (pgN (i := 3) sc_stacked.nd rfl (by first | exact Or.inl rfl | exact Or.inr rfl) (by first | exact Or.inl rfl | exact Or.inr rfl)) pgs_nil))))
      (pss_one (ps_ret (pe_tup (pa_cons (pe_ix (ixT (K := K)) (pv 2) pe_int (fun _ _ => rfl)) (pa_cons (pe_op op_add (pe_ix (ixT (K := K)) (pv 2) pe_int (fun _ _ => rfl)) (pe_ix (ixT (K := K)) (pv 3) pe_int (fun _ _ => rfl))) (pa_cons (pe_callTy (cTuple (K := K)) (by rfl) B.tuple (by decide +kernel) (pa_cons (pe_lc (own := [("own", 4), ("its", 5)]) (g := (gTup K 2 (gCons (gName 4) (gCons (gName 5) gNil)))) (tt := tYes) rfl sc_stacked.nd (piZip (K := K) (by rfl) B.zip (pa_cons (pe_ix (ixT (K := K)) (pv 2) pe_int (fun _ _ => rfl)) (pa_cons (pe_ix (ixT (K := K)) (pv 3) pe_int (fun _ _ => rfl)) pa_nil))) (blkOk_by (N := ["one", "other", "near", "far", "own", "its"]) (sc := defScope s_stacked) (by decide +kernel)) (fun _ _ _ _ _ => (pgTup (K := K) rfl (pgs_cons (pgN (i := 4) sc_stacked.nd rfl (by first | exact Or.inl rfl | exact Or.inr rfl) (by first | exact Or.inl rfl | exact Or.inr rfl)) (pgs_cons (pgN (i := 5) sc_stacked.nd rfl (by first | exact Or.inl rfl | exact Or.inr rfl) (by first | exact Or.inl rfl | exact Or.inr rfl)) pgs_nil)))) (fun _ _ _ _ _ => pts_nil) (fun _ _ _ _ _ => (pe_op (opCatT (K := K)) (pv 4) (pv 5)))) pa_nil)) pa_nil))))))), fun ds0 P0 hd => ?_⟩
  obtain ⟨p, n, k, l, rfl, h1, h2, h3, rfl⟩ := hd
  refine sj_seq (sj_asgGD (xc_sure_kin (xad_cons (xd_var rfl) (xad_cons (xd_var rfl) xad_nil)) h1 h2 h3) xg_tup2 ?_)
  have a1 := h1.nn
  have a2 := h1.mm
  have a3 := h2.mm
  refine sj_retD (xd_tup (xad_cons (xd_op (xd_var rfl) xd_int (rd_ixT rfl)) (xad_cons (xd_op (xd_op (xd_var rfl) xd_int (rd_ixT rfl)) (xd_op (xd_var rfl) xd_int (rd_ixT rfl)) rd_I0) (xad_cons (xd_cb (xad_cons (xd_lcMap (js := [4, 5]) ((xid_zipT (xad_cons (xd_op (xd_var rfl) xd_int (rd_ixT rfl)) (xad_cons (xd_op (xd_var rfl) xd_int (rd_ixT rfl)) xad_nil))).is zipD_map) (by simp) ?_ (fun x hx => xg_tup2) (fun x hx => (xd_op (xd_var rfl) (xd_var rfl) (rd_catE ?_)))) xad_nil) (rc_tupE (enc := rowD))) xad_nil))) (by simp)) ?_
  · simp
    omega
  · have b := (h1.col x.1 (List.of_mem_zip hx).1).1
    have b' := (h2.col x.2 (List.of_mem_zip hx).2).1
    omega
  · rfl
theorem stack_ok {p n : Nat} {k l : Ky} (h1 : KOk p n k) (h2 : KOk p n l) (hm : k.m + l.m ≤ 300) : KOk p n (stack k l) := by
  refine ⟨h1.pp, hm, ?_, fun c hc => ?_⟩
  · simp [stack, h1.nn, h2.nn]
  · obtain ⟨x, hx, rfl⟩ := List.mem_map.mp hc
    have b := h1.col x.1 (List.of_mem_zip hx).1
    have b' := h2.col x.2 (List.of_mem_zip hx).2
    refine ⟨by simp [stack, b.1, b'.1], fun y hy => ?_⟩
    rcases List.mem_append.mp hy with hy | hy
    · exact b.2 y hy
    · exact b'.2 y hy
def inOne (ks : List Ky) : Ky := (ks.drop 1).foldl stack (ks.getD 0 k0)
theorem inOne_snoc {ks : List Ky} {i : Nat} {x : Ky} (hi : 0 < i) (h : ks[i]? = some x) : inOne (ks.take (i + 1)) = stack (inOne (ks.take i)) x := by
  unfold inOne
  have e1 : (ks.take (i + 1)).drop 1 = (ks.take i).drop 1 ++ [x] := by
    rw [List.take_succ, h, List.drop_append]
    have := (List.getElem?_eq_some_iff.mp h).1
    simp only [List.length_take, Nat.min_eq_left (Nat.le_of_lt this), Option.toList]
    rw [show 1 - i = 0 by omega]
    rfl
  have e2 : (ks.take (i + 1)).getD 0 k0 = (ks.take i).getD 0 k0 := by
    cases ks with
    | nil => simp
    | cons k ks =>
      cases i with
      | zero => omega
      | succ i => simp
  rw [e1, e2, List.foldl_append]
  rfl
theorem inOne_one (k : Ky) (ks : List Ky) : inOne ((k :: ks).take 1) = k := by simp [inOne]
theorem inOne_ok {p n : Nat} {ks : List Ky} (h : KsOk p n ks) : ∀ i, 0 < i → i ≤ ks.length → KOk p n (inOne (ks.take i)) ∧ (inOne (ks.take i)).m ≤ 10 * i
  | 0, h0, _ => absurd h0 (Nat.lt_irrefl 0)
  | 1, _, hi => by
    cases ks with
    | nil => exact absurd rfl h.ne
    | cons k ks =>
      rw [inOne_one]
      have := h.all k (by simp)
      exact ⟨this.1, by omega⟩
  | i + 2, _, hi => by
    obtain ⟨k1, k2⟩ := inOne_ok h (i + 1) (by omega) (by omega)
    have e : ks[i + 1]? = some ks[i + 1] := List.getElem?_eq_getElem (by omega)
    have hk := h.all _ (List.getElem_mem (show i + 1 < ks.length by omega))
    rw [inOne_snoc (by omega) e]
    have := h.len
    refine ⟨stack_ok k1 hk.1 (by omega), ?_⟩
    show (inOne (ks.take (i + 1))).m + (ks[i + 1]).m ≤ 10 * (i + 2)
    omega
theorem inOne_all {p n : Nat} {ks : List Ky} (h : KsOk p n ks) : KOk p n (inOne ks) := by
  have := h.ne
  have k := (inOne_ok h ks.length (by cases ks with | nil => exact absurd rfl h.ne | cons k ks => simp) (Nat.le_refl _)).1
  rw [List.take_length] at k
  exact k
theorem sc_sure_keys : FnScope ["keys", "own", "key"] ["keys"] (defScope s_sure_keys) := ⟨rfl, rfl, rfl, by decide +kernel, rfl, by decide +kernel, by decide +kernel⟩
abbrev lv_sure_keys : Nat := 7
def dom_sure_keys : List PyData → (PyData → Prop) → Prop := fun ds0 P0 => ∃ (p n : Nat) (ks : List Ky) (d : PyData), ds0 = [d] ∧ (KsOk p n ks) ∧ (tup d = keysD ks) ∧ (TOk 6 d) ∧ P0 = (fun z => z = keysD ks)
abbrev sp_sure_keys (K : PySem.W.Frag) : Sp := SpD K dom_sure_keys
theorem xc_sure_keys {K : PySem.W.Frag} {tr : TA} {δ : List Sl} {p n : Nat} {ks : List Ky} {d : PyData} (h0 : XAD K tr δ [d]) (h1 : KsOk p n ks) (h2 : tup d = keysD ks) (h3 : TOk 6 d) : XD K (tCall (sp_sure_keys K) [] E0 tr) δ (keysD ks) := xd_callD h0 ⟨_, _, _, _, rfl, h1, h2, h3, rfl⟩
theorem ok_sure_keys (D : Df K mg "sure_keys" s_sure_keys) (B : Bi mg) (C_is_key : Call1 P w K mg base CX0 lv_is_key "is_key" (sp_is_key K)) (C_tupled : Call1 P w K mg base CX0 lv_tupled "tupled" (sp_tupled K)) : Call1 P w K mg base CX0 lv_sure_keys "sure_keys" (sp_sure_keys K) := by
  refine fun_ok (k := 6) (N := ["keys", "own", "key"]) (ps := ["keys"]) D sc_sure_keys (fun ds0 P0 hd => by obtain ⟨p, n, ks, d, rfl, h1, h2, h3, rfl⟩ := hd; rfl) (fun _ _ _ _ _ _ us hl => match us, hl with | [_], _ => rfl) fun f cdv A outer s H E hr => ⟨_, 
    (pss_cons (ps_set (i := 1) sc_sure_keys.nd rfl (by first | exact Or.inl rfl | exact Or.inr rfl) (pe_callC C_tupled (hr.mono (by decide)) (by rfl) (pa_cons (pv 0) pa_nil)) (hf := (by first | exact Or.inl rfl | exact Or.inr rfl)))
      (pss_cons (ps_if (PW.pt (pw_or (pt_not (pt_val (pe_callB (cIsi (K := K)) (by rfl) B.isinstance (by decide +kernel) (pa_cons (pv 1) (pa_cons (pe_bltn (v := .ty "tuple") (by rfl) B.tuple (by decide +kernel) rfl) pa_nil))))) (pw_or (pt_cmpR (opEqD (K := K) hr.units) (pv 1) (pe_tup pa_nil) (nomark _)) (pw_or1 (pt_not (pt_val (pe_callB (cAll (K := K) rfl) (by rfl) B.all (by decide +kernel) (pa_cons (pe_lc (own := [("key", 2)]) (g := (gName 2)) (tt := tYes) rfl sc_sure_keys.nd (piTup (K := K) (pv 1)) (blkOk_by (N := ["keys", "own", "key"]) (sc := defScope s_sure_keys) (by decide +kernel)) (fun _ _ _ _ _ => (pgN (i := 2) sc_sure_keys.nd rfl (by first | exact Or.inl rfl | exact Or.inr rfl) (by first | exact Or.inl rfl | exact Or.inr rfl))) (fun _ _ _ _ _ => pts_nil) (fun _ _ _ _ _ => (pe_callC C_is_key (hr.mono (by decide)) (by rfl) (pa_cons (pv 2) pa_nil)))) pa_nil)))))))) (pss_one ps_never) pss_nil)
      (pss_cons (ps_if (pt_val (pe_callB (cAny (K := K) rfl) (by rfl) B.any (by decide +kernel) (pa_cons (pe_lc (own := [("key", 2)]) (g := (gName 2)) (tt := tYes) rfl sc_sure_keys.nd (piTup (K := K) (pv 1)) (blkOk_by (N := ["keys", "own", "key"]) (sc := defScope s_sure_keys) (by decide +kernel)) (fun _ _ _ _ _ => (pgN (i := 2) sc_sure_keys.nd rfl (by first | exact Or.inl rfl | exact Or.inr rfl) (by first | exact Or.inl rfl | exact Or.inr rfl))) (fun _ _ _ _ _ => pts_nil) (fun _ _ _ _ _ => (pe_or (pe_cmpR op_ne (pe_ix (ixT (K := K)) (pv 2) pe_int (fun _ _ => rfl)) (pe_ix (ixT (K := K)) (pe_ix (ixT (K := K)) (pv 1) pe_int (fun _ _ => rfl)) pe_int (fun _ _ => rfl)) (nomark _)) (pe_one (pe_cmpR op_ne (pe_callB (cLen (K := K)) (by rfl) B.len PySem.boot_len (pa_cons (pe_ix (ixT (K := K)) (pv 2) pe_int (fun _ _ => rfl)) pa_nil)) (pe_callB (cLen (K := K)) (by rfl) B.len PySem.boot_len (pa_cons (pe_ix (ixT (K := K)) (pe_ix (ixT (K := K)) (pv 1) pe_int (fun _ _ => rfl)) pe_int (fun _ _ => rfl)) pa_nil)) (nomark _)))))) pa_nil))) (pss_one ps_never) pss_nil)
      (pss_one (ps_ret (pv 1)))))), fun ds0 P0 hd => ?_⟩
  obtain ⟨p, n, ks, d, rfl, h1, h2, h3, rfl⟩ := hd
  have hl := h1.len
  have hne : 0 < ks.length := by
    cases ks with
    | nil => exact absurd rfl h1.ne
    | cons k ks => simp
  have hg : ks.getD 0 k0 ∈ ks := by
    rw [List.getD_eq_getElem?_getD, List.getElem?_eq_getElem hne]
    exact List.getElem_mem hne
  have hgk := h1.all _ hg
  refine sj_seq (sj_asgD ((xc_tupled (xad_cons (xd_var rfl) xad_nil) h3).is h2) ?_)
  refine sj_seq (sj_ifF (XT.is (xt_or (b := false) (c := false) (xt_not (b := true) (xt_val (xd_isi (xd_var rfl) kit_tuple))) fun _ => (xt_or (b := false) (c := false) (xt_test ((xd_op (xd_var rfl) (xd_tup xad_nil (by simp)) (rd_eqD ?_ ?_)).is ?_)) fun _ => (xt_not (b := true) (xt_val ((xd_cb (xad_cons (xd_lcMap (xs := ks) (A := keyD) (js := [2]) (xid_tup (xd_var rfl)) (by simp) ?_ (fun x hx => xg_name) (fun x hx => (xc_is_key (xad_cons (xd_var rfl) xad_nil) h1.hp (h1.all x hx).1 ⟨h1.n0, h1.n1⟩))) xad_nil) (rc_allE (t := fun _ => true))).is ?_))))) rfl) (sj_next ?_))
  · refine (sh_tup (k := 3) (sh_map fun k hk => sh_tup (k := 2) fun x hx => ?_)).ok
    simp only [List.mem_cons, List.not_mem_nil, or_false] at hx
    rcases hx with rfl | rfl | rfl
    · exact sh_int
    · exact sh_int
    · exact sh_rows _
  · exact sh_nilT.ok
  · rw [eqv_nilT]
    cases ks with
    | nil => exact absurd rfl h1.ne
    | cons k ks => rfl
  · omega
  · simp
  · refine sj_seq (sj_ifF (XT.is (xt_val (xd_cb (xad_cons (xd_lcMap (xs := ks) (A := keyD) (F := fun _ => .bool false) (js := [2]) (xid_tup (xd_var rfl)) (by simp) ?_ (fun x hx => xg_name) (fun x hx => (xd_orF ((xd_op (xd_op (xd_var rfl) xd_int (rd_ixT rfl)) (xd_op (xd_op (xd_var rfl) xd_int (rd_ixC 0 k0 rfl ?_)) xd_int (rd_ixT rfl)) rd_neI).is ?_) ((xd_op (xd_cb (xad_cons (xd_op (xd_var rfl) xd_int (rd_ixT rfl)) xad_nil) rc_lenE) (xd_cb (xad_cons (xd_op (xd_op (xd_var rfl) xd_int (rd_ixC 0 k0 rfl ?_)) xd_int (rd_ixT rfl)) xad_nil) rc_lenE) rd_neI).is ?_)))) xad_nil) (rc_anyE (t := fun _ => false)))) ?_) (sj_next ?_))
    · omega
    · exact hne
    · rw [(h1.all x hx).1.pp, hgk.1.pp]; simp
    · exact hne
    · rw [(h1.all x hx).1.nn, hgk.1.nn]; simp
    · simp
    · exact sj_retD (xd_var rfl) rfl
theorem sc_lot_of_keys : FnScope ["keys", "lot", "own"] ["keys", "lot"] (defScope s_lot_of_keys) := ⟨rfl, rfl, rfl, by decide +kernel, rfl, by decide +kernel, by decide +kernel⟩
structure LotOk (n : Nat) (lot : List Int) : Prop where
  lt : ∀ x ∈ lot, 0 ≤ x ∧ x < (n : Int)
  asc : asc lot = true
  len : lot.length ≤ 100
abbrev lv_lot_of_keys : Nat := 7
def dom_lot_of_keys : List PyData → (PyData → Prop) → Prop := fun ds0 P0 => ∃ (p n : Nat) (ks : List Ky) (lot : List Int) (d : PyData), ds0 = [keysD ks, d] ∧ (KsOk p n ks) ∧ (tup d = rowD lot) ∧ (TOk 6 d) ∧ (LotOk n lot) ∧ P0 = (fun z => z = rowD lot)
abbrev sp_lot_of_keys (K : PySem.W.Frag) : Sp := SpD K dom_lot_of_keys
theorem xc_lot_of_keys {K : PySem.W.Frag} {tr : TA} {δ : List Sl} {p n : Nat} {ks : List Ky} {lot : List Int} {d : PyData} (h0 : XAD K tr δ [keysD ks, d]) (h1 : KsOk p n ks) (h2 : tup d = rowD lot) (h3 : TOk 6 d) (h4 : LotOk n lot) : XD K (tCall (sp_lot_of_keys K) [] E0 tr) δ (rowD lot) := xd_callD h0 ⟨_, _, _, _, _, rfl, h1, h2, h3, h4, rfl⟩
theorem ok_lot_of_keys (D : Df K mg "lot_of_keys" s_lot_of_keys) (B : Bi mg) (C_is_number_set : Call1 P w K mg base CX0 lv_is_number_set "is_number_set" (sp_is_number_set K)) (C_tupled : Call1 P w K mg base CX0 lv_tupled "tupled" (sp_tupled K)) : Call1 P w K mg base CX0 lv_lot_of_keys "lot_of_keys" (sp_lot_of_keys K) := by
  refine fun_ok (k := 6) (N := ["keys", "lot", "own"]) (ps := ["keys", "lot"]) D sc_lot_of_keys (fun ds0 P0 hd => by obtain ⟨p, n, ks, lot, d, rfl, h1, h2, h3, h4, rfl⟩ := hd; rfl) (fun _ _ _ _ _ _ us hl => match us, hl with | [_, _], _ => rfl) fun f cdv A outer s H E hr => ⟨_, 
    (pss_cons (ps_set (i := 2) sc_lot_of_keys.nd rfl (by first | exact Or.inl rfl | exact Or.inr rfl) (pe_callC C_tupled (hr.mono (by decide)) (by rfl) (pa_cons (pv 1) pa_nil)) (hf := (by first | exact Or.inl rfl | exact Or.inr rfl)))
      (pss_cons (ps_if (pt_not (pt_val (pe_callC C_is_number_set (hr.mono (by decide)) (by rfl) (pa_cons (pv 2) (pa_cons (pe_callB (cLen (K := K)) (by rfl) B.len PySem.boot_len (pa_cons (pe_ix (ixT (K := K)) (pe_ix (ixT (K := K)) (pv 0) pe_int (fun _ _ => rfl)) pe_int (fun _ _ => rfl)) pa_nil)) pa_nil))))) (pss_one ps_never) pss_nil)
      (pss_one (ps_ret (pv 2))))), fun ds0 P0 hd => ?_⟩
  obtain ⟨p, n, ks, lot, d, rfl, h1, h2, h3, h4, rfl⟩ := hd
  have hl := h4.len
  have hne : 0 < ks.length := by
    cases ks with
    | nil => exact absurd rfl h1.ne
    | cons k ks => simp
  have hg : ks.getD 0 k0 ∈ ks := by
    rw [List.getD_eq_getElem?_getD, List.getElem?_eq_getElem hne]
    exact List.getElem_mem hne
  have hgk := h1.all _ hg
  refine sj_seq (sj_asgD ((xc_tupled (xad_cons (xd_var rfl) xad_nil) h3).is h2) ?_)
  refine sj_seq (sj_ifF (XT.is (xt_not (xt_val (xc_is_number_set (xad_cons (xd_var rfl) (xad_cons (xd_cb (xad_cons (xd_op (xd_op (xd_var rfl) xd_int (rd_ixC 0 k0 rfl ?_)) xd_int (rd_ixT rfl)) xad_nil) rc_lenE) xad_nil)) ?_ ?_ ?_))) rfl) (sj_next ?_))
  · exact hne
  · omega
  · rw [hgk.1.nn]
    exact h4.lt
  · exact h4.asc
  · exact sj_retD (xd_var rfl) rfl
theorem sc_in_one : FnScope ["keys", "found", "key"] ["keys"] (defScope s_in_one) := ⟨rfl, rfl, rfl, by decide +kernel, rfl, by decide +kernel, by decide +kernel⟩
abbrev lv_in_one : Nat := 10
def dom_in_one : List PyData → (PyData → Prop) → Prop := fun ds0 P0 => ∃ (p n : Nat) (ks : List Ky), ds0 = [keysD ks] ∧ (KsOk p n ks) ∧ P0 = (fun z => z = keyD (inOne ks))
abbrev sp_in_one (K : PySem.W.Frag) : Sp := SpD K dom_in_one
theorem xc_in_one {K : PySem.W.Frag} {tr : TA} {δ : List Sl} {p n : Nat} {ks : List Ky} (h0 : XAD K tr δ [keysD ks]) (h1 : KsOk p n ks) : XD K (tCall (sp_in_one K) [] E0 tr) δ (keyD (inOne ks)) := xd_callD h0 ⟨_, _, _, rfl, h1, rfl⟩
theorem ok_in_one (D : Df K mg "in_one" s_in_one) (B : Bi mg) (C_stacked : Call1 P w K mg base CX0 lv_stacked "stacked" (sp_stacked K)) : Call1 P w K mg base CX0 lv_in_one "in_one" (sp_in_one K) := by
  refine fun_ok (k := 9) (N := ["keys", "found", "key"]) (ps := ["keys"]) D sc_in_one (fun ds0 P0 hd => by obtain ⟨p, n, ks, rfl, h1, rfl⟩ := hd; rfl) (fun _ _ _ _ _ _ us hl => match us, hl with | [_], _ => rfl) fun f cdv A outer s H E hr => ⟨_, 
    (pss_cons (ps_set (i := 1) sc_in_one.nd rfl (by first | exact Or.inl rfl | exact Or.inr rfl) (pe_ix (ixT (K := K)) (pv 0) pe_int (fun _ _ => rfl)) (hf := (by first | exact Or.inl rfl | exact Or.inr rfl)))
      (pss_cons (ps_for (g := (gName 2)) PassesOwn.never rfl (piTup (K := K) (pe_slice (slT (K := K)) (pv 0) (po_some pe_int) po_none)) (pgN (i := 2) sc_in_one.nd rfl (by first | exact Or.inl rfl | exact Or.inr rfl) (by first | exact Or.inl rfl | exact Or.inr rfl)) (pss_one (ps_set (i := 1) sc_in_one.nd rfl (by first | exact Or.inl rfl | exact Or.inr rfl) (pe_callC C_stacked (hr.mono (by decide)) (by rfl) (pa_cons (pv 1) (pa_cons (pv 2) pa_nil))) (hf := (by first | exact Or.inl rfl | exact Or.inr rfl)))))
      (pss_one (ps_ret (pv 1))))), fun ds0 P0 hd => ?_⟩
  obtain ⟨p, n, ks, rfl, h1, rfl⟩ := hd
  obtain ⟨k, ks', rfl⟩ : ∃ k ks', ks = k :: ks' := by
    cases ks with
    | nil => exact absurd rfl h1.ne
    | cons k ks => exact ⟨k, ks, rfl⟩
  have hl := h1.len
  refine sj_seq (sj_asgD (xd_op (xd_var rfl) xd_int (rd_ixC 0 k0 rfl (by simp))) ?_)
  refine sj_seq (sj_forT (xs := ks') (A := keyD) (xid_tup ((xd_slE (xd_var rfl) (xo_some xd_int) xo_none).is (e := .tuple (ks'.map keyD)) ?_)) (fun i δ _ => ∃ s2, δ = [.val (keysD (k :: ks')), .val (keyD (inOne ((k :: ks').take (i + 1)))), s2]) ⟨.un, by rw [inOne_one]; rfl⟩ (fun i x δ' m hx iv => ?_) (fun δ' m iv => ?_))
  · rw [show (1 : Int) = ((1 : Nat) : Int) from rfl, cut_drop]
    rfl
  · obtain ⟨s2, rfl⟩ := iv
    have hi := (List.getElem?_eq_some_iff.mp hx).1
    have hm := List.mem_of_getElem? hx
    refine ⟨_, [2], xg_name, sj_asgD (xc_stacked (xad_cons (xd_var rfl) (xad_cons (xd_var rfl) xad_nil)) (inOne_ok h1 (i + 1) (by omega) (by simp; omega)).1 (h1.all x (by simp [hm])).1 h1.n1) ?_⟩
    rw [inOne_snoc (ks := k :: ks') (i := i + 1) (x := x) (by omega) (by simpa using hx)]
    exact ⟨_, rfl⟩
  · obtain ⟨s2, rfl⟩ := iv
    refine sj_retD (xd_var rfl) ?_
    rw [show ks'.length + 1 = (k :: ks').length from rfl, List.take_length]
end
end Dry

set_option Elab.async false
set_option linter.all false
set_option maxRecDepth 100000
set_option maxHeartbeats 4000000
namespace Dry
open PySem PySem.Spec PyProof.Rows L2 RZ
section
variable {P : Program} {w : World} {K : PySem.W.Frag} {mg : Str → Option Value} {base : Heap}
theorem sc_one_row : FnScope ["rows", "found", "row"] ["rows"] (defScope s_one_row) := ⟨rfl, rfl, rfl, by decide +kernel, rfl, by decide +kernel, by decide +kernel⟩
theorem flat_len {rs : List (List Int)} (h1 : ∀ r ∈ rs, r.length ≤ 300) : rs.flatten.length ≤ 300 * rs.length := by
  induction rs with
  | nil => simp
  | cons r rs ih =>
    have := ih fun x hx => h1 x (by simp [hx])
    have := h1 r (by simp)
    simp only [List.flatten_cons, List.length_append, List.length_cons]
    omega
theorem flat_succ {rs : List (List Int)} {i : Nat} {x : List Int} (h : rs[i]? = some x) : (rs.take (i + 1)).flatten = (rs.take i).flatten ++ x := by
  rw [List.take_succ, h, List.flatten_append]
  simp
abbrev lv_one_row : Nat := 1
def dom_one_row : List PyData → (PyData → Prop) → Prop := fun ds0 P0 => ∃ (rs : List (List Int)), ds0 = [rowsD rs] ∧ (∀ r ∈ rs, r.length ≤ 300) ∧ (rs.length ≤ 100) ∧ P0 = (fun z => z = rowD rs.flatten)
abbrev sp_one_row (K : PySem.W.Frag) : Sp := SpD K dom_one_row
theorem xc_one_row {K : PySem.W.Frag} {tr : TA} {δ : List Sl} {rs : List (List Int)} (h0 : XAD K tr δ [rowsD rs]) (h1 : ∀ r ∈ rs, r.length ≤ 300) (h2 : rs.length ≤ 100) : XD K (tCall (sp_one_row K) [] E0 tr) δ (rowD rs.flatten) := xd_callD h0 ⟨_, rfl, h1, h2, rfl⟩
theorem ok_one_row (D : Df K mg "one_row" s_one_row) (B : Bi mg) : Call1 P w K mg base CX0 lv_one_row "one_row" (sp_one_row K) := by
  refine fun_ok (k := 0) (N := ["rows", "found", "row"]) (ps := ["rows"]) D sc_one_row (fun ds0 P0 hd => by obtain ⟨rs, rfl, h1, h2, rfl⟩ := hd; rfl) (fun _ _ _ _ _ _ us hl => match us, hl with | [_], _ => rfl) fun f cdv A outer s H E hr => ⟨_, 
    (pss_cons (ps_set (i := 1) sc_one_row.nd rfl (by first | exact Or.inl rfl | exact Or.inr rfl) (pe_tup pa_nil) (hf := (by first | exact Or.inl rfl | exact Or.inr rfl)))
      (pss_cons (ps_for (g := (gName 2)) PassesOwn.never rfl (piTup (K := K) (pv 0)) (pgN (i := 2) sc_one_row.nd rfl (by first | exact Or.inl rfl | exact Or.inr rfl) (by first | exact Or.inl rfl | exact Or.inr rfl)) (pss_one (ps_set (i := 1) sc_one_row.nd rfl (by first | exact Or.inl rfl | exact Or.inr rfl) (pe_op (opCatT (K := K)) (pv 1) (pv 2)) (hf := (by first | exact Or.inl rfl | exact Or.inr rfl)))))
      (pss_one (ps_ret (pv 1))))), fun ds0 P0 hd => ?_⟩
  obtain ⟨rs, rfl, h1, h2, rfl⟩ := hd
  refine sj_seq (sj_asgD (d := rowD []) (xd_tup xad_nil (by simp)) ?_)
  refine sj_seq (sj_forT (xs := rs) (A := rowD) (xid_tup (xd_var rfl)) (fun i δ _ => ∃ s2, δ = [.val (rowsD rs), .val (rowD (rs.take i).flatten), s2]) ⟨.un, rfl⟩ (fun i x δ' m hx iv => ?_) (fun δ' m iv => ?_))
  · obtain ⟨s2, rfl⟩ := iv
    have hm := List.mem_of_getElem? hx
    refine ⟨_, [2], xg_name, sj_asgD (xd_op (xd_var rfl) (xd_var rfl) (rd_catE ?_)) ?_⟩
    · have := flat_len (rs := rs.take i) fun r hr => h1 r (List.mem_of_mem_take hr)
      have := h1 x hm
      simp only [List.length_take] at *
      omega
    · rw [flat_succ hx]
      exact ⟨_, rfl⟩
  · obtain ⟨s2, rfl⟩ := iv
    refine sj_retD (xd_var rfl) ?_
    rw [List.take_length]
theorem sc_parted : FnScope ["keys", "row", "key", "found", "place"] ["keys", "row"] (defScope s_parted) := ⟨rfl, rfl, rfl, by decide +kernel, rfl, by decide +kernel, by decide +kernel⟩
def placeAt (ks : List Ky) (i : Nat) : Nat := ((ks.take i).map (·.m)).sum
def partK (ks : List Ky) (row : List Int) : List (List Int) := (List.range ks.length).map fun i => (row.take (placeAt ks (i + 1))).drop (placeAt ks i)
theorem place_succ {ks : List Ky} {i : Nat} {x : Ky} (h : ks[i]? = some x) : placeAt ks (i + 1) = placeAt ks i + x.m := by
  unfold placeAt
  rw [List.take_succ, h, List.map_append, List.sum_append]
  simp
abbrev lv_parted : Nat := 1
def dom_parted : List PyData → (PyData → Prop) → Prop := fun ds0 P0 => ∃ (ks : List Ky) (row : List Int), ds0 = [keysD ks, rowD row] ∧ (ks.length ≤ 100) ∧ P0 = (fun z => z = rowsD (partK ks row))
abbrev sp_parted (K : PySem.W.Frag) : Sp := SpD K dom_parted
theorem xc_parted {K : PySem.W.Frag} {tr : TA} {δ : List Sl} {ks : List Ky} {row : List Int} (h0 : XAD K tr δ [keysD ks, rowD row]) (h1 : ks.length ≤ 100) : XD K (tCall (sp_parted K) [] E0 tr) δ (rowsD (partK ks row)) := xd_callD h0 ⟨_, _, rfl, h1, rfl⟩
theorem ok_parted (D : Df K mg "parted" s_parted) (B : Bi mg) : Call1 P w K mg base CX0 lv_parted "parted" (sp_parted K) := by
  refine fun_ok (k := 0) (N := ["keys", "row", "key", "found", "place"]) (ps := ["keys", "row"]) D sc_parted (fun ds0 P0 hd => by obtain ⟨ks, row, rfl, h1, rfl⟩ := hd; rfl) (fun _ _ _ _ _ _ us hl => match us, hl with | [_, _], _ => rfl) fun f cdv A outer s H E hr => ⟨_, 
    (pss_cons (ps_par (i := 3) (j := 4) rfl sc_parted.nd rfl rfl (by decide) rfl rfl (pa_cons (pe_lst pa_nil) (pa_cons pe_int pa_nil)) (by rfl))
      (pss_cons (ps_for (g := (gName 2)) PassesOwn.never rfl (piTup (K := K) (pv 0)) (pgN (i := 2) sc_parted.nd rfl (by first | exact Or.inl rfl | exact Or.inr rfl) (by first | exact Or.inl rfl | exact Or.inr rfl)) (pss_cons (ps_expr (pe_bm PySem.F.plainAttrs_list PySem.F.slot_list_append PySem.F.type_list_append mt_append (pv 3) (pa_cons (pe_slice (slT (K := K)) (pv 1) (po_some (pv 4)) (po_some (pe_op op_add (pv 4) (pe_ix (ixT (K := K)) (pv 2) pe_int (fun _ _ => rfl))))) pa_nil)))
      (pss_one (ps_set (i := 4) sc_parted.nd rfl (by first | exact Or.inl rfl | exact Or.inr rfl) (pe_op op_add (pv 4) (pe_ix (ixT (K := K)) (pv 2) pe_int (fun _ _ => rfl))) (hf := (by first | exact Or.inl rfl | exact Or.inr rfl))))))
      (pss_one (ps_ret (pe_callTy (cTuple (K := K)) (by rfl) B.tuple (by decide +kernel) (pa_cons (pv 3) pa_nil)))))), fun ds0 P0 hd => ?_⟩
  obtain ⟨ks, row, rfl, h1, rfl⟩ := hd
  refine sj_seq (sj_par (xs_own (xn_lst xa_nil (fun ds e => by rw [e]; simp))) (xs_val (xd_int _)) fun s s' ⟨ds, e3, e4⟩ ⟨d, e1, e2⟩ => ?_)
  subst e1 e2 e3 e4
  refine sj_seq (sj_forT (xs := ks) (A := keyD) (xid_tup (xd_var rfl)) (fun i δ _ => ∃ s2, δ = [.val (keysD ks), .val (rowD row), s2, .own (((List.range i).map fun i => (row.take (placeAt ks (i + 1))).drop (placeAt ks i)).map rowD), .val (.int (placeAt ks i : Nat))]) ⟨.un, rfl⟩ (fun i x δ' m hx iv => ?_) (fun δ' m iv => ?_))
  · obtain ⟨s2, rfl⟩ := iv
    have hi := (List.getElem?_eq_some_iff.mp hx).1
    refine ⟨_, [2], xg_name, sj_seq (sj_append rfl ((xd_slE (xd_var rfl) (xo_some (xd_var rfl)) (xo_some (xd_op (xd_var rfl) (xd_op (xd_var rfl) xd_int (rd_ixT rfl)) rd_I0))) _) (by simp; omega) fun d e => ?_)⟩
    subst e
    refine sj_asgD (xd_op (xd_var rfl) (xd_op (xd_var rfl) xd_int (rd_ixT rfl)) rd_I0) ?_
    have e1 : ((placeAt ks i : Nat) : Int) + (x.m : Int) = ((placeAt ks (i + 1) : Nat) : Int) := by rw [place_succ hx]; omega
    have hs : ((List.range (i + 1)).map fun i => (row.take (placeAt ks (i + 1))).drop (placeAt ks i)).map rowD = ((List.range i).map fun i => (row.take (placeAt ks (i + 1))).drop (placeAt ks i)).map rowD ++ [rowD ((row.take (placeAt ks (i + 1))).drop (placeAt ks i))] := by
      rw [List.range_succ, List.map_append, List.map_append]
      rfl
    rw [hs, e1, cut_mid]
    exact ⟨_, rfl⟩
  · obtain ⟨s2, rfl⟩ := iv
    exact sj_freeze (i := 3) rfl (sj_retD (xd_cb (xad_cons (xd_var rfl) xad_nil) rc_tupleL) rfl)
theorem sc_is_joint_row : FnScope ["keys", "thing", "key", "row"] ["keys", "thing"] (defScope s_is_joint_row) := ⟨rfl, rfl, rfl, by decide +kernel, rfl, by decide +kernel, by decide +kernel⟩
def DSm (d : PyData) : Prop := ∀ ds, d = .tuple ds → ds.length ≤ 1000 ∧ ∀ x ∈ ds, ∀ es, x = .tuple es → es.length ≤ 1000
def isJoint (ks : List Ky) : PyData → Bool
  | .tuple ds => decide ((ds.length : Int) = ks.length) && (ks.zip ds).all fun x => isMsg x.1 x.2
  | _ => false
abbrev lv_is_joint_row : Nat := 6
def dom_is_joint_row : List PyData → (PyData → Prop) → Prop := fun ds0 P0 => ∃ (ks : List Ky) (d : PyData), ds0 = [keysD ks, d] ∧ (DSm d) ∧ (ks.length ≤ 100) ∧ P0 = (fun z => z = .bool (isJoint ks d))
abbrev sp_is_joint_row (K : PySem.W.Frag) : Sp := SpD K dom_is_joint_row
theorem xc_is_joint_row {K : PySem.W.Frag} {tr : TA} {δ : List Sl} {ks : List Ky} {d : PyData} (h0 : XAD K tr δ [keysD ks, d]) (h1 : DSm d) (h2 : ks.length ≤ 100) : XD K (tCall (sp_is_joint_row K) [] E0 tr) δ (.bool (isJoint ks d)) := xd_callD h0 ⟨_, _, rfl, h1, h2, rfl⟩
theorem ok_is_joint_row (D : Df K mg "is_joint_row" s_is_joint_row) (B : Bi mg) (C_is_message : Call1 P w K mg base CX0 lv_is_message "is_message" (sp_is_message K)) : Call1 P w K mg base CX0 lv_is_joint_row "is_joint_row" (sp_is_joint_row K) := by
  refine fun_ok (k := 5) (N := ["keys", "thing", "key", "row"]) (ps := ["keys", "thing"]) D sc_is_joint_row (fun ds0 P0 hd => by obtain ⟨ks, d, rfl, h1, h2, rfl⟩ := hd; rfl) (fun _ _ _ _ _ _ us hl => match us, hl with | [_, _], _ => rfl) fun f cdv A outer s H E hr => ⟨_, 
    (pss_cons (ps_if (PW.pt (pw_or (pt_not (pt_val (pe_callB (cIsi (K := K)) (by rfl) B.isinstance (by decide +kernel) (pa_cons (pv 1) (pa_cons (pe_bltn (v := .ty "tuple") (by rfl) B.tuple (by decide +kernel) rfl) pa_nil))))) (pw_or1 (pt_cmpR op_ne (pe_callB (cLen (K := K)) (by rfl) B.len PySem.boot_len (pa_cons (pv 1) pa_nil)) (pe_callB (cLen (K := K)) (by rfl) B.len PySem.boot_len (pa_cons (pv 0) pa_nil)) (nomark _))))) (pss_one (ps_ret pe_bl)) pss_nil)
      (pss_one (ps_ret (pe_callB (cAll (K := K) rfl) (by rfl) B.all (by decide +kernel) (pa_cons (pe_lc (own := [("key", 2), ("row", 3)]) (g := (gTup K 2 (gCons (gName 2) (gCons (gName 3) gNil)))) (tt := tYes) rfl sc_is_joint_row.nd (piZip (K := K) (by rfl) B.zip (pa_cons (pv 0) (pa_cons (pv 1) pa_nil))) (blkOk_by (N := ["keys", "thing", "key", "row"]) (sc := defScope s_is_joint_row) (by decide +kernel)) (fun _ _ _ _ _ => (pgTup (K := K) rfl (pgs_cons (pgN (i := 2) sc_is_joint_row.nd rfl (by first | exact Or.inl rfl | exact Or.inr rfl) (by first | exact Or.inl rfl | exact Or.inr rfl)) (pgs_cons (pgN (i := 3) sc_is_joint_row.nd rfl (by first | exact Or.inl rfl | exact Or.inr rfl) (by first | exact Or.inl rfl | exact Or.inr rfl)) pgs_nil)))) (fun _ _ _ _ _ => pts_nil) (fun _ _ _ _ _ => (pe_callC C_is_message (hr.mono (by decide)) (by rfl) (pa_cons (pv 2) (pa_cons (pv 3) pa_nil))))) pa_nil))))), fun ds0 P0 hd => ?_⟩
  obtain ⟨ks, d, rfl, h1, h2, rfl⟩ := hd
  cases d with
  | tuple ds =>
    obtain ⟨h3, h4⟩ := h1 ds rfl
    refine sj_seq (sj_if (XT.is (xt_or (xt_not (b := true) (xt_val (xd_isi (xd_var rfl) kit_tuple))) fun _ => (xt_test (xd_op (xd_cb (xad_cons (xd_var rfl) xad_nil) rc_lenT) (xd_cb (xad_cons (xd_var rfl) xad_nil) rc_lenE) rd_neI))) rfl) (fun hb => sj_retD xd_bl ?_) (fun hb => sj_next ?_))
    · have : ¬ ((ds.length : Int) = ks.length) := by simpa using hb
      simp [isJoint, this]
    · have : ((ds.length : Int) = ks.length) := by simpa using hb
      refine sj_retD (xd_cb (xad_cons (xd_lcMap (js := [2, 3]) (xs := ks.zip ds) (A := fun p => .tuple [keyD p.1, p.2]) ((xid_zipT (xad_cons (xd_var rfl) (xad_cons (xd_var rfl) xad_nil))).is ?_) (by simp) ?_ (fun x hx => xg_tup2) (fun x hx => (xc_is_message (xad_cons (xd_var rfl) (xad_cons (xd_var rfl) xad_nil)) (h4 x.2 (List.of_mem_zip hx).2)))) xad_nil) rc_allE) ?_
      · have := zipD_map (xs := ks) (A := keyD) (ys := ds) (B := fun z => z)
        rw [List.map_id'] at this
        exact this
      · simp; omega
      · simp [isJoint, this]
  | none => exact sj_seq (sj_ifT (XT.is (xt_or (b := true) (c := false) (xt_not (b := false) (xt_val (xd_isi (xd_var rfl) kit_tuple))) fun z => nomatch z) rfl) (sj_retD xd_bl rfl))
  | bool i => exact sj_seq (sj_ifT (XT.is (xt_or (b := true) (c := false) (xt_not (b := false) (xt_val (xd_isi (xd_var rfl) kit_tuple))) fun z => nomatch z) rfl) (sj_retD xd_bl rfl))
  | str i => exact sj_seq (sj_ifT (XT.is (xt_or (b := true) (c := false) (xt_not (b := false) (xt_val (xd_isi (xd_var rfl) kit_tuple))) fun z => nomatch z) rfl) (sj_retD xd_bl rfl))
  | list i => exact sj_seq (sj_ifT (XT.is (xt_or (b := true) (c := false) (xt_not (b := false) (xt_val (xd_isi (xd_var rfl) kit_tuple))) fun z => nomatch z) rfl) (sj_retD xd_bl rfl))
  | int i => exact sj_seq (sj_ifT (XT.is (xt_or (b := true) (c := false) (xt_not (b := false) (xt_val (xd_isi (xd_var rfl) kit_tuple))) fun z => nomatch z) rfl) (sj_retD xd_bl rfl))
  | dict i => exact sj_seq (sj_ifT (XT.is (xt_or (b := true) (c := false) (xt_not (b := false) (xt_val (xd_isi (xd_var rfl) kit_tuple))) fun z => nomatch z) rfl) (sj_retD xd_bl rfl))
theorem sc_columns_beside : FnScope ["whole", "lot", "cell", "column"] ["whole", "lot"] (defScope s_columns_beside) := ⟨rfl, rfl, rfl, by decide +kernel, rfl, by decide +kernel, by decide +kernel⟩
def beside (cols : List (List Int)) (lot : List Int) : List (List Int) := (cols.zipIdx.filter fun x => !lot.contains ((x.2 : Nat) : Int)).map (·.1)
theorem beside_mem {cols : List (List Int)} {lot : List Int} {c : List Int} (h : c ∈ beside cols lot) : c ∈ cols := by
  obtain ⟨x, hx, rfl⟩ := List.mem_map.mp h
  exact List.fst_mem_of_mem_zipIdx (List.mem_filter.mp hx).1
theorem beside_len {cols : List (List Int)} {lot : List Int} : (beside cols lot).length ≤ cols.length := by
  unfold beside
  rw [List.length_map]
  refine Nat.le_trans (List.length_filter_le _ _) ?_
  simp
abbrev lv_columns_beside : Nat := 1
def dom_columns_beside : List PyData → (PyData → Prop) → Prop := fun ds0 P0 => ∃ (k : Ky) (lot : List Int), ds0 = [keyD k, rowD lot] ∧ (k.cols.length ≤ 1000) ∧ P0 = (fun z => z = rowsD (beside k.cols lot))
abbrev sp_columns_beside (K : PySem.W.Frag) : Sp := SpD K dom_columns_beside
theorem xc_columns_beside {K : PySem.W.Frag} {tr : TA} {δ : List Sl} {k : Ky} {lot : List Int} (h0 : XAD K tr δ [keyD k, rowD lot]) (h1 : k.cols.length ≤ 1000) : XD K (tCall (sp_columns_beside K) [] E0 tr) δ (rowsD (beside k.cols lot)) := xd_callD h0 ⟨_, _, rfl, h1, rfl⟩
theorem ok_columns_beside (D : Df K mg "columns_beside" s_columns_beside) (B : Bi mg) : Call1 P w K mg base CX0 lv_columns_beside "columns_beside" (sp_columns_beside K) := by
  refine fun_ok (k := 0) (N := ["whole", "lot", "cell", "column"]) (ps := ["whole", "lot"]) D sc_columns_beside (fun ds0 P0 hd => by obtain ⟨k, lot, rfl, h1, rfl⟩ := hd; rfl) (fun _ _ _ _ _ _ us hl => match us, hl with | [_, _], _ => rfl) fun f cdv A outer s H E hr => ⟨_, 
    (pss_one (ps_ret (pe_callTy (cTuple (K := K)) (by rfl) B.tuple (by decide +kernel) (pa_cons (pe_lc (own := [("cell", 2), ("column", 3)]) (g := (gTup K 2 (gCons (gName 2) (gCons (gName 3) gNil)))) rfl sc_columns_beside.nd (piEnumT (K := K) (by rfl) B.enumerate (pa_cons (pe_ix (ixT (K := K)) (pv 0) pe_int (fun _ _ => rfl)) pa_nil)) (blkOk_by (N := ["whole", "lot", "cell", "column"]) (sc := defScope s_columns_beside) (by decide +kernel)) (fun _ _ _ _ _ => (pgTup (K := K) rfl (pgs_cons (pgN (i := 2) sc_columns_beside.nd rfl (by first | exact Or.inl rfl | exact Or.inr rfl) (by first | exact Or.inl rfl | exact Or.inr rfl)) (pgs_cons (pgN (i := 3) sc_columns_beside.nd rfl (by first | exact Or.inl rfl | exact Or.inr rfl) (by first | exact Or.inl rfl | exact Or.inr rfl)) pgs_nil)))) (fun _ _ _ _ _ => (pts_one (pt_cmpR (opNotIn (K := K)) (pv 2) (pv 1) (by rfl)))) (fun _ _ _ _ _ => (pv 3))) pa_nil)))), fun ds0 P0 hd => ?_⟩
  obtain ⟨k, lot, rfl, h1, rfl⟩ := hd
  refine sj_retD (xd_cb (xad_cons (xd_lcFil (js := [2, 3]) ((xid_enumT (xad_cons (xd_op (xd_var rfl) xd_int (rd_ixT rfl)) xad_nil)).is enD_map) (by simp) ?_ (fun x hx => xg_tup2) (fun x hx => (xt_test (xd_op (xd_var rfl) (xd_var rfl) rd_notInT))) (fun x hx hb => (xd_var rfl))) xad_nil) (rc_tupE (enc := rowD))) ?_
  · simp; omega
  · rfl
theorem sc_marks_none : FnScope ["whole", "lot", "row", "column"] ["whole", "lot", "row"] (defScope s_marks_none) := ⟨rfl, rfl, rfl, by decide +kernel, rfl, by decide +kernel, by decide +kernel⟩
abbrev lv_marks_none : Nat := 3
def dom_marks_none : List PyData → (PyData → Prop) → Prop := fun ds0 P0 => ∃ (p n : Nat) (k : Ky) (lot r : List Int), ds0 = [keyD k, rowD lot, rowD r] ∧ (p = 2 ∨ p = 3) ∧ (KOk p n k) ∧ (n ≤ 10) ∧ (r.length = k.m) ∧ (Dig p r) ∧ P0 = (fun z => z = .bool ((beside k.cols lot).all fun c => decide (rowProd p r c = 0)))
abbrev sp_marks_none (K : PySem.W.Frag) : Sp := SpD K dom_marks_none
theorem xc_marks_none {K : PySem.W.Frag} {tr : TA} {δ : List Sl} {p n : Nat} {k : Ky} {lot r : List Int} (h0 : XAD K tr δ [keyD k, rowD lot, rowD r]) (hp : p = 2 ∨ p = 3) (h1 : KOk p n k) (h2 : n ≤ 10) (h3 : r.length = k.m) (h4 : Dig p r) : XD K (tCall (sp_marks_none K) [] E0 tr) δ (.bool ((beside k.cols lot).all fun c => decide (rowProd p r c = 0))) := xd_callD h0 ⟨_, _, _, _, _, rfl, hp, h1, h2, h3, h4, rfl⟩
theorem ok_marks_none (D : Df K mg "marks_none" s_marks_none) (B : Bi mg) (C_columns_beside : Call1 P w K mg base CX0 lv_columns_beside "columns_beside" (sp_columns_beside K)) (C_row_product : Call1 P w K mg base CX0 lv_row_product "row_product" (sp_row_product K)) : Call1 P w K mg base CX0 lv_marks_none "marks_none" (sp_marks_none K) := by
  refine fun_ok (k := 2) (N := ["whole", "lot", "row", "column"]) (ps := ["whole", "lot", "row"]) D sc_marks_none (fun ds0 P0 hd => by obtain ⟨p, n, k, lot, r, rfl, hp, h1, h2, h3, h4, rfl⟩ := hd; rfl) (fun _ _ _ _ _ _ us hl => match us, hl with | [_, _, _], _ => rfl) fun f cdv A outer s H E hr => ⟨_, 
    (pss_one (ps_ret (pe_callB (cAll (K := K) rfl) (by rfl) B.all (by decide +kernel) (pa_cons (pe_lc (own := [("column", 3)]) (g := (gName 3)) (tt := tYes) rfl sc_marks_none.nd (piTup (K := K) (pe_callC C_columns_beside (hr.mono (by decide)) (by rfl) (pa_cons (pv 0) (pa_cons (pv 1) pa_nil)))) (blkOk_by (N := ["whole", "lot", "row", "column"]) (sc := defScope s_marks_none) (by decide +kernel)) (fun _ _ _ _ _ => (pgN (i := 3) sc_marks_none.nd rfl (by first | exact Or.inl rfl | exact Or.inr rfl) (by first | exact Or.inl rfl | exact Or.inr rfl))) (fun _ _ _ _ _ => pts_nil) (fun _ _ _ _ _ => (pe_cmpR op_eq (pe_callC C_row_product (hr.mono (by decide)) (by rfl) (pa_cons (pe_ix (ixT (K := K)) (pv 0) pe_int (fun _ _ => rfl)) (pa_cons (pv 2) (pa_cons (pv 3) pa_nil)))) pe_int (nomark _)))) pa_nil)))), fun ds0 P0 hd => ?_⟩
  obtain ⟨p, n, k, lot, r, rfl, hp, h1, h2, h3, h4, rfl⟩ := hd
  have a1 := h1.nn
  have a2 := h1.mm
  have a3 := h1.pp
  obtain ⟨kp, km, kc⟩ := k
  simp only at a1 a2 a3 h3
  subst a3
  have hb := beside_len (cols := kc) (lot := lot)
  refine sj_retD (xd_cb (xad_cons (xd_lcMap (js := [3]) (xid_tup (xc_columns_beside (xad_cons (xd_var rfl) (xad_cons (xd_var rfl) xad_nil)) ?_)) (by simp) ?_ (fun x hx => xg_name) (fun x hx => (xd_op (xc_row_product (xad_cons (xd_op (xd_var rfl) xd_int (rd_ixT rfl)) (xad_cons (xd_var rfl) (xad_cons (xd_var rfl) xad_nil))) ?_ ?_ ?_ ?_) xd_int rd_eqI))) xad_nil) rc_allE) rfl
  · show kc.length ≤ 1000
    omega
  · show (beside kc lot).length ≤ 50000
    omega
  · exact hp
  · rw [(h1.col x (beside_mem hx)).1]
    exact h3
  · omega
  · exact h4
def bnds (p : Nat) (ks : List Ky) (lot : List Int) : List (List (List Int)) := (unmarked p (inOne ks).m (beside (inOne ks).cols lot)).map (partK ks)
theorem len_unmarked {p m : Nat} {rs : List (List Int)} : (unmarked p m rs).length ≤ m := by
  unfold unmarked
  rw [List.length_map]
  refine Nat.le_trans (List.length_filter_le _ _) ?_
  simp
theorem sh_bnds (bs : List (List (List Int))) : Sh 3 (.list (bs.map rowsD)) := sh_list (sh_map fun _ _ => sh_rows _)
theorem sc_bindings_of : FnScope ["keys", "lot", "own", "whole", "some", "row"] ["keys", "lot"] (defScope s_bindings_of) := ⟨rfl, rfl, rfl, by decide +kernel, rfl, by decide +kernel, by decide +kernel⟩
abbrev lv_bindings_of : Nat := 11
def dom_bindings_of : List PyData → (PyData → Prop) → Prop := fun ds0 P0 => ∃ (p n : Nat) (ks : List Ky) (lot : List Int) (d e : PyData), ds0 = [d, e] ∧ (KsOk p n ks) ∧ (LotOk n lot) ∧ (tup d = keysD ks ∧ TOk 6 d) ∧ (tup e = rowD lot ∧ TOk 6 e) ∧ P0 = (fun z => z = .tuple [keysD ks, .list ((bnds p ks lot).map rowsD)])
abbrev sp_bindings_of (K : PySem.W.Frag) : Sp := SpD K dom_bindings_of
theorem xc_bindings_of {K : PySem.W.Frag} {tr : TA} {δ : List Sl} {p n : Nat} {ks : List Ky} {lot : List Int} {d e : PyData} (h0 : XAD K tr δ [d, e]) (h1 : KsOk p n ks) (h2 : LotOk n lot) (h3 : tup d = keysD ks ∧ TOk 6 d) (h4 : tup e = rowD lot ∧ TOk 6 e) : XD K (tCall (sp_bindings_of K) [] E0 tr) δ (.tuple [keysD ks, .list ((bnds p ks lot).map rowsD)]) := xd_callD h0 ⟨_, _, _, _, _, _, rfl, h1, h2, h3, h4, rfl⟩
theorem ok_bindings_of (D : Df K mg "bindings_of" s_bindings_of) (B : Bi mg) (C_columns_beside : Call1 P w K mg base CX0 lv_columns_beside "columns_beside" (sp_columns_beside K)) (C_in_one : Call1 P w K mg base CX0 lv_in_one "in_one" (sp_in_one K)) (C_lot_of_keys : Call1 P w K mg base CX0 lv_lot_of_keys "lot_of_keys" (sp_lot_of_keys K)) (C_parted : Call1 P w K mg base CX0 lv_parted "parted" (sp_parted K)) (C_sure_keys : Call1 P w K mg base CX0 lv_sure_keys "sure_keys" (sp_sure_keys K)) (C_unmarked_rows : Call1 P w K mg base CX0 lv_unmarked_rows "unmarked_rows" (sp_unmarked_rows K)) : Call1 P w K mg base CX0 lv_bindings_of "bindings_of" (sp_bindings_of K) := by
  refine fun_ok (k := 10) (N := ["keys", "lot", "own", "whole", "some", "row"]) (ps := ["keys", "lot"]) D sc_bindings_of (fun ds0 P0 hd => by obtain ⟨p, n, ks, lot, d, e, rfl, h1, h2, h3, h4, rfl⟩ := hd; rfl) (fun _ _ _ _ _ _ us hl => match us, hl with | [_, _], _ => rfl) fun f cdv A outer s H E hr => ⟨_, 
    (pss_cons (ps_set (i := 2) sc_bindings_of.nd rfl (by first | exact Or.inl rfl | exact Or.inr rfl) (pe_callC C_sure_keys (hr.mono (by decide)) (by rfl) (pa_cons (pv 0) pa_nil)) (hf := (by first | exact Or.inl rfl | exact Or.inr rfl)))
      (pss_cons (ps_par (i := 3) (j := 4) rfl sc_bindings_of.nd rfl rfl (by decide) rfl rfl (pa_cons (pe_callC C_in_one (hr.mono (by decide)) (by rfl) (pa_cons (pv 2) pa_nil)) (pa_cons (pe_callC C_lot_of_keys (hr.mono (by decide)) (by rfl) (pa_cons (pv 2) (pa_cons (pv 1) pa_nil))) pa_nil)) (by rfl))
      (pss_one (ps_ret (pe_tup (pa_cons (pv 2) (pa_cons (pe_lc (own := [("row", 5)]) (g := (gName 5)) (tt := tYes) rfl sc_bindings_of.nd (piTup (K := K) (pe_callC C_unmarked_rows (hr.mono (by decide)) (by rfl) (pa_cons (pe_ix (ixT (K := K)) (pv 3) pe_int (fun _ _ => rfl)) (pa_cons (pe_ix (ixT (K := K)) (pv 3) pe_int (fun _ _ => rfl)) (pa_cons (pe_callC C_columns_beside (hr.mono (by decide)) (by rfl) (pa_cons (pv 3) (pa_cons (pv 4) pa_nil))) pa_nil))))) (blkOk_by (N := ["keys", "lot", "own", "whole", "some", "row"]) (sc := defScope s_bindings_of) (by decide +kernel)) (fun _ _ _ _ _ => (pgN (i := 5) sc_bindings_of.nd rfl (by first | exact Or.inl rfl | exact Or.inr rfl) (by first | exact Or.inl rfl | exact Or.inr rfl))) (fun _ _ _ _ _ => pts_nil) (fun _ _ _ _ _ => (pe_callC C_parted (hr.mono (by decide)) (by rfl) (pa_cons (pv 2) (pa_cons (pv 5) pa_nil))))) pa_nil))))))), fun ds0 P0 hd => ?_⟩
  obtain ⟨p, n, ks, lot, d, e, rfl, h1, h2, h3, h4, rfl⟩ := hd
  have hW := inOne_all h1
  have hWp := hW.pp
  refine sj_seq (sj_asgD (xc_sure_keys (xad_cons (xd_var rfl) xad_nil) h1 h3.1 h3.2) ?_)
  refine sj_seq (sj_par (xs_val ((xc_in_one (xad_cons (xd_var rfl) xad_nil) h1) _)) (xs_val ((xc_lot_of_keys (xad_cons (xd_var rfl) (xad_cons (xd_var rfl) xad_nil)) h1 h4.1 h4.2 h2) _)) fun s s' ⟨ds, e3, e4⟩ ⟨d, e1, e2⟩ => ?_)
  subst e1 e2 e3 e4
  have hb := beside_len (cols := (inOne ks).cols) (lot := lot)
  have a1 := hW.nn
  have a2 := hW.mm
  have a3 := h1.n1
  have a4 := len_unmarked (p := p) (m := (inOne ks).m) (rs := beside (inOne ks).cols lot)
  have a5 := h1.len
  refine sj_retD (xd_tup (xad_cons (xd_var rfl) (xad_cons (xd_lcMap (js := [5]) (xid_tup (xc_unmarked_rows (p := p) (xad_cons ((xd_op (xd_var rfl) xd_int (rd_ixT rfl)).is (by rw [hWp])) (xad_cons (xd_op (xd_var rfl) xd_int (rd_ixT rfl)) (xad_cons (xc_columns_beside (xad_cons (xd_var rfl) (xad_cons (xd_var rfl) xad_nil)) ?_) xad_nil))) h1.hp ?_ ?_ ?_)) (by simp) ?_ (fun x hx => xg_name) (fun x hx => (xc_parted (xad_cons (xd_var rfl) (xad_cons (xd_var rfl) xad_nil)) ?_))) xad_nil)) (by simp)) ?_
  · omega
  · exact fun r hr => hW.col r (beside_mem hr)
  · omega
  · omega
  · omega
  · omega
  · simp [bnds]
theorem sc_always_all : FnScope ["keys", "lot"] ["keys", "lot"] (defScope s_always_all) := ⟨rfl, rfl, rfl, by decide +kernel, rfl, by decide +kernel, by decide +kernel⟩
abbrev lv_always_all : Nat := 12
def dom_always_all : List PyData → (PyData → Prop) → Prop := fun ds0 P0 => ∃ (p n : Nat) (ks : List Ky) (lot : List Int) (d e : PyData), ds0 = [d, e] ∧ (KsOk p n ks) ∧ (LotOk n lot) ∧ (tup d = keysD ks ∧ TOk 6 d) ∧ (tup e = rowD lot ∧ TOk 6 e) ∧ P0 = (fun z => z = .bool (bnds p ks lot).isEmpty)
abbrev sp_always_all (K : PySem.W.Frag) : Sp := SpD K dom_always_all
theorem xc_always_all {K : PySem.W.Frag} {tr : TA} {δ : List Sl} {p n : Nat} {ks : List Ky} {lot : List Int} {d e : PyData} (h0 : XAD K tr δ [d, e]) (h1 : KsOk p n ks) (h2 : LotOk n lot) (h3 : tup d = keysD ks ∧ TOk 6 d) (h4 : tup e = rowD lot ∧ TOk 6 e) : XD K (tCall (sp_always_all K) [] E0 tr) δ (.bool (bnds p ks lot).isEmpty) := xd_callD h0 ⟨_, _, _, _, _, _, rfl, h1, h2, h3, h4, rfl⟩
theorem ok_always_all (D : Df K mg "always_all" s_always_all) (B : Bi mg) (C_bindings_of : Call1 P w K mg base CX0 lv_bindings_of "bindings_of" (sp_bindings_of K)) : Call1 P w K mg base CX0 lv_always_all "always_all" (sp_always_all K) := by
  refine fun_ok (k := 11) (N := ["keys", "lot"]) (ps := ["keys", "lot"]) D sc_always_all (fun ds0 P0 hd => by obtain ⟨p, n, ks, lot, d, e, rfl, h1, h2, h3, h4, rfl⟩ := hd; rfl) (fun _ _ _ _ _ _ us hl => match us, hl with | [_, _], _ => rfl) fun f cdv A outer s H E hr => ⟨_, 
    (pss_one (ps_ret (pe_cmpR (opEqD (K := K) hr.units) (pe_ix (ixT (K := K)) (pe_callC C_bindings_of (hr.mono (by decide)) (by rfl) (pa_cons (pv 0) (pa_cons (pv 1) pa_nil))) pe_int (fun _ _ => rfl)) (pe_lst pa_nil) (nomark _)))), fun ds0 P0 hd => ?_⟩
  obtain ⟨p, n, ks, lot, d, e, rfl, h1, h2, h3, h4, rfl⟩ := hd
  refine sj_retD (xd_op (xd_op (xc_bindings_of (xad_cons (xd_var rfl) (xad_cons (xd_var rfl) xad_nil)) h1 h2 h3 h4) xd_int (rd_ixT rfl)) (xd_lst xad_nil (by simp)) (rd_eqD ?_ ?_)) ?_
  · exact (sh_bnds _).ok
  · exact sh_nilL.ok
  · rw [eqv_nilL]
    simp
theorem sc_loud_in : FnScope ["keys", "lot", "number", "own", "found", "rows"] ["keys", "lot", "number"] (defScope s_loud_in) := ⟨rfl, rfl, rfl, by decide +kernel, rfl, by decide +kernel, by decide +kernel⟩
def loud (p : Nat) (ks : List Ky) (lot : List Int) (j : Nat) : List (List (List Int)) := (bnds p ks lot).filter fun rows => (rows.getD j []).any fun i => i != 0
abbrev lv_loud_in : Nat := 12
def dom_loud_in : List PyData → (PyData → Prop) → Prop := fun ds0 P0 => ∃ (p n j : Nat) (ks : List Ky) (lot : List Int) (d e : PyData), ds0 = [d, e, .int j] ∧ (KsOk p n ks) ∧ (LotOk n lot) ∧ (tup d = keysD ks ∧ TOk 6 d) ∧ (tup e = rowD lot ∧ TOk 6 e) ∧ (j < ks.length) ∧ P0 = (fun z => z = .list ((loud p ks lot j).map rowsD))
abbrev sp_loud_in (K : PySem.W.Frag) : Sp := SpD K dom_loud_in
theorem xc_loud_in {K : PySem.W.Frag} {tr : TA} {δ : List Sl} {p n j : Nat} {ks : List Ky} {lot : List Int} {d e : PyData} (h0 : XAD K tr δ [d, e, .int j]) (h1 : KsOk p n ks) (h2 : LotOk n lot) (h3 : tup d = keysD ks ∧ TOk 6 d) (h4 : tup e = rowD lot ∧ TOk 6 e) (h5 : j < ks.length) : XD K (tCall (sp_loud_in K) [] E0 tr) δ (.list ((loud p ks lot j).map rowsD)) := xd_callD h0 ⟨_, _, _, _, _, _, _, rfl, h1, h2, h3, h4, h5, rfl⟩
theorem ok_loud_in (D : Df K mg "loud_in" s_loud_in) (B : Bi mg) (C_bindings_of : Call1 P w K mg base CX0 lv_bindings_of "bindings_of" (sp_bindings_of K)) (C_is_below : Call1 P w K mg base CX0 lv_is_below "is_below" (sp_is_below K)) : Call1 P w K mg base CX0 lv_loud_in "loud_in" (sp_loud_in K) := by
  refine fun_ok (k := 11) (N := ["keys", "lot", "number", "own", "found", "rows"]) (ps := ["keys", "lot", "number"]) D sc_loud_in (fun ds0 P0 hd => by obtain ⟨p, n, j, ks, lot, d, e, rfl, h1, h2, h3, h4, h5, rfl⟩ := hd; rfl) (fun _ _ _ _ _ _ us hl => match us, hl with | [_, _, _], _ => rfl) fun f cdv A outer s H E hr => ⟨_, 
    (pss_cons (ps_asg (g := (gTup K 2 (gCons (gName 3) (gCons (gName 4) gNil)))) (pe_callC C_bindings_of (hr.mono (by decide)) (by rfl) (pa_cons (pv 0) (pa_cons (pv 1) pa_nil))) (pgTup (K := K) rfl (pgs_cons (pgN (i := 3) sc_loud_in.nd rfl (by first | exact Or.inl rfl | exact Or.inr rfl) (by first | exact Or.inl rfl | exact Or.inr rfl)) (pgs_cons (pgN (i := 4) sc_loud_in.nd rfl (by first | exact Or.inl rfl | exact Or.inr rfl) (by first | exact Or.inl rfl | exact Or.inr rfl)) pgs_nil))))
      (pss_cons (ps_if (pt_not (pt_val (pe_callC C_is_below (hr.mono (by decide)) (by rfl) (pa_cons (pv 2) (pa_cons (pe_callB (cLen (K := K)) (by rfl) B.len PySem.boot_len (pa_cons (pv 3) pa_nil)) pa_nil))))) (pss_one ps_never) pss_nil)
      (pss_one (ps_ret (pe_lc (own := [("rows", 5)]) (g := (gName 5)) rfl sc_loud_in.nd (piList (K := K) (pv 4)) (blkOk_by (N := ["keys", "lot", "number", "own", "found", "rows"]) (sc := defScope s_loud_in) (by decide +kernel)) (fun _ _ _ _ _ => (pgN (i := 5) sc_loud_in.nd rfl (by first | exact Or.inl rfl | exact Or.inr rfl) (by first | exact Or.inl rfl | exact Or.inr rfl))) (fun _ _ _ _ _ => (pts_one (pt_val (pe_callB (cAnyT (K := K) rfl) (by rfl) B.any (by decide +kernel) (pa_cons (pe_ix (ixT (K := K)) (pv 5) (pv 2) (fun _ _ => rfl)) pa_nil))))) (fun _ _ _ _ _ => (pv 5))))))), fun ds0 P0 hd => ?_⟩
  obtain ⟨p, n, j, ks, lot, d, e, rfl, h1, h2, h3, h4, h5, rfl⟩ := hd
  have hW := inOne_all h1
  have a2 := hW.mm
  have a4 := len_unmarked (p := p) (m := (inOne ks).m) (rs := beside (inOne ks).cols lot)
  refine sj_seq (sj_asgGD (xc_bindings_of (xad_cons (xd_var rfl) (xad_cons (xd_var rfl) xad_nil)) h1 h2 h3 h4) xg_tup2 ?_)
  refine sj_seq (sj_ifF (XT.is (xt_not (xt_val (xc_is_below (xad_cons (xd_var rfl) (xad_cons (xd_cb (xad_cons (xd_var rfl) xad_nil) rc_lenE) xad_nil))))) ?_) (sj_next ?_))
  · simp [isBelow, h5]
  · refine sj_retD (xd_lcFil (js := [5]) (xid_list (xd_var rfl)) (by simp) ?_ (fun x hx => xg_name) (fun x hx => (xt_val (xd_cb (xad_cons (xd_op (xd_var rfl) (xd_var rfl) (rd_ixG [] ?_)) xad_nil) rc_anyT))) (fun x hx hb => (xd_var rfl))) ?_
    · simp [bnds]; omega
    · obtain ⟨u, _, rfl⟩ := List.mem_map.mp hx
      simp [partK, h5]
    · simp [loud]
theorem sc_always_quiet : FnScope ["keys", "lot", "number"] ["keys", "lot", "number"] (defScope s_always_quiet) := ⟨rfl, rfl, rfl, by decide +kernel, rfl, by decide +kernel, by decide +kernel⟩
abbrev lv_always_quiet : Nat := 13
def dom_always_quiet : List PyData → (PyData → Prop) → Prop := fun ds0 P0 => ∃ (p n j : Nat) (ks : List Ky) (lot : List Int) (d e : PyData), ds0 = [d, e, .int j] ∧ (KsOk p n ks) ∧ (LotOk n lot) ∧ (tup d = keysD ks ∧ TOk 6 d) ∧ (tup e = rowD lot ∧ TOk 6 e) ∧ (j < ks.length) ∧ P0 = (fun z => z = .bool (loud p ks lot j).isEmpty)
abbrev sp_always_quiet (K : PySem.W.Frag) : Sp := SpD K dom_always_quiet
theorem xc_always_quiet {K : PySem.W.Frag} {tr : TA} {δ : List Sl} {p n j : Nat} {ks : List Ky} {lot : List Int} {d e : PyData} (h0 : XAD K tr δ [d, e, .int j]) (h1 : KsOk p n ks) (h2 : LotOk n lot) (h3 : tup d = keysD ks ∧ TOk 6 d) (h4 : tup e = rowD lot ∧ TOk 6 e) (h5 : j < ks.length) : XD K (tCall (sp_always_quiet K) [] E0 tr) δ (.bool (loud p ks lot j).isEmpty) := xd_callD h0 ⟨_, _, _, _, _, _, _, rfl, h1, h2, h3, h4, h5, rfl⟩
theorem ok_always_quiet (D : Df K mg "always_quiet" s_always_quiet) (B : Bi mg) (C_loud_in : Call1 P w K mg base CX0 lv_loud_in "loud_in" (sp_loud_in K)) : Call1 P w K mg base CX0 lv_always_quiet "always_quiet" (sp_always_quiet K) := by
  refine fun_ok (k := 12) (N := ["keys", "lot", "number"]) (ps := ["keys", "lot", "number"]) D sc_always_quiet (fun ds0 P0 hd => by obtain ⟨p, n, j, ks, lot, d, e, rfl, h1, h2, h3, h4, h5, rfl⟩ := hd; rfl) (fun _ _ _ _ _ _ us hl => match us, hl with | [_, _, _], _ => rfl) fun f cdv A outer s H E hr => ⟨_, 
    (pss_one (ps_ret (pe_cmpR (opEqD (K := K) hr.units) (pe_callC C_loud_in (hr.mono (by decide)) (by rfl) (pa_cons (pv 0) (pa_cons (pv 1) (pa_cons (pv 2) pa_nil)))) (pe_lst pa_nil) (nomark _)))), fun ds0 P0 hd => ?_⟩
  obtain ⟨p, n, j, ks, lot, d, e, rfl, h1, h2, h3, h4, h5, rfl⟩ := hd
  refine sj_retD (xd_op (xc_loud_in (xad_cons (xd_var rfl) (xad_cons (xd_var rfl) (xad_cons (xd_var rfl) xad_nil))) h1 h2 h3 h4 h5) (xd_lst xad_nil (by simp)) (rd_eqD ?_ ?_)) ?_
  · exact (sh_bnds _).ok
  · exact sh_nilL.ok
  · rw [eqv_nilL]
    simp
end
end Dry

set_option Elab.async false
set_option linter.all false
set_option maxRecDepth 100000
set_option maxHeartbeats 4000000
namespace Dry
open PySem PySem.Spec PyProof.Rows L2 RZ
section
variable {P : Program} {w : World} {K : PySem.W.Frag} {mg : Str → Option Value} {base : Heap}
def toI : PyData → Int
  | .int i => i
  | _ => 0
def toRow : PyData → List Int
  | .tuple ds => ds.map toI
  | _ => []
def toRows : PyData → List (List Int)
  | .tuple ds => ds.map toRow
  | _ => []
def bindR (p : Nat) (ks : List Ky) (lot : List Int) (rs : List (List Int)) : Bool := (rs.any fun r => r.any fun i => i != 0) && (beside (inOne ks).cols lot).all fun c => decide (rowProd p rs.flatten c = 0)
def isBind (p : Nat) (ks : List Ky) (lot : List Int) (d : PyData) : Bool := isJoint ks d && bindR p ks lot (toRows d)
/-- rows that go with keys -/
inductive JRows (p : Nat) : List Ky → List (List Int) → Prop
  | nil : JRows p [] []
  | cons {k : Ky} {r : List Int} {ks : List Ky} {rs : List (List Int)} : r.length = k.m → Dig p r → JRows p ks rs → JRows p (k :: ks) (r :: rs)
theorem isBelow_int {x : PyData} {p : Int} (h : isBelow x p = true) : x = .int (toI x) ∧ 0 ≤ toI x ∧ toI x < p := by
  cases x <;> simp [isBelow] at h
  exact ⟨rfl, h⟩
theorem isMsg_row {k : Ky} {d : PyData} (h : isMsg k d = true) : d = rowD (toRow d) ∧ (toRow d).length = k.m ∧ Dig k.p (toRow d) := by
  cases d <;> simp [isMsg] at h
  rename_i ds
  obtain ⟨h1, h2⟩ := h
  refine ⟨?_, ?_, ?_⟩
  · show PyData.tuple ds = PyData.tuple ((ds.map toI).map PyData.int)
    rw [List.map_map]
    congr 1
    have : ds.map (PyData.int ∘ toI) = ds.map id := List.map_congr_left fun x hx => (isBelow_int (h1 x hx)).1.symm
    rw [this, List.map_id]
  · simp [toRow]
    omega
  · intro x hx
    obtain ⟨y, hy, rfl⟩ := List.mem_map.mp hx
    exact (isBelow_int (h1 y hy)).2
theorem joint_aux {p : Nat} : ∀ {ks : List Ky} {ds : List PyData}, (∀ k ∈ ks, k.p = p) → ds.length = ks.length → ((ks.zip ds).all fun x => isMsg x.1 x.2) = true → ds = (ds.map toRow).map rowD ∧ JRows p ks (ds.map toRow)
  | [], [], _, _, _ => ⟨rfl, .nil⟩
  | [], _ :: _, _, h, _ => by simp at h
  | _ :: _, [], _, h, _ => by simp at h
  | k :: ks, d :: ds, hp, hl, h => by
    simp only [List.zip_cons_cons, List.all_cons, Bool.and_eq_true] at h
    obtain ⟨h1, h2⟩ := h
    obtain ⟨e1, e2, e3⟩ := isMsg_row h1
    obtain ⟨f1, f2⟩ := joint_aux (fun k hk => hp k (by simp [hk])) (by simpa using hl) h2
    refine ⟨?_, .cons e2 (by rw [← hp k (by simp)]; exact e3) f2⟩
    simp only [List.map_cons]
    rw [← e1, ← f1]
theorem joint_rows {p : Nat} {ks : List Ky} {d : PyData} (hp : ∀ k ∈ ks, k.p = p) (h : isJoint ks d = true) : d = rowsD (toRows d) ∧ JRows p ks (toRows d) := by
  cases d <;> simp only [isJoint, Bool.false_eq_true, Bool.and_eq_true, decide_eq_true_eq] at h
  rename_i ds
  obtain ⟨e1, e2⟩ := joint_aux hp (by omega) h.2
  exact ⟨by show PyData.tuple ds = PyData.tuple ((ds.map toRow).map rowD); rw [← e1], e2⟩
theorem JRows.len {p : Nat} : ∀ {ks : List Ky} {rs : List (List Int)}, JRows p ks rs → rs.length = ks.length
  | _, _, .nil => rfl
  | _, _, .cons _ _ h => by simp [h.len]
theorem JRows.flat {p : Nat} : ∀ {ks : List Ky} {rs : List (List Int)}, JRows p ks rs → rs.flatten.length = (ks.map (·.m)).sum ∧ Dig p rs.flatten
  | _, _, .nil => ⟨rfl, fun x hx => by simp at hx⟩
  | _, _, .cons h1 h2 h => by
    obtain ⟨a, b⟩ := h.flat
    refine ⟨by simp [h1, a], fun x hx => ?_⟩
    rw [List.flatten_cons, List.mem_append] at hx
    exact hx.elim (h2 x) (b x)
theorem JRows.row {p : Nat} : ∀ {ks : List Ky} {rs : List (List Int)}, JRows p ks rs → ∀ r ∈ rs, Dig p r ∧ ∃ k ∈ ks, r.length = k.m
  | _, _, .nil, _, hr => by simp at hr
  | _, _, .cons (k := k) h1 h2 h, r, hr => by
    rcases List.mem_cons.mp hr with rfl | hr
    · exact ⟨h2, k, by simp, h1⟩
    · obtain ⟨a, k, hk, b⟩ := h.row r hr
      exact ⟨a, k, by simp [hk], b⟩
theorem rowsD_toRows (rs : List (List Int)) : toRows (rowsD rs) = rs := by
  show (rs.map rowD).map toRow = rs
  rw [List.map_map]
  have : ∀ r : List Int, (toRow ∘ rowD) r = r := fun r => by
    show (r.map PyData.int).map toI = r
    rw [List.map_map]
    have : r.map (toI ∘ PyData.int) = r.map id := List.map_congr_left fun x _ => rfl
    rw [this, List.map_id]
  rw [show (toRow ∘ rowD) = id from funext this, List.map_id]
theorem isJoint_rows {p : Nat} : ∀ {ks : List Ky} {rs : List (List Int)}, (∀ k ∈ ks, k.p = p) → JRows p ks rs → isJoint ks (rowsD rs) = true
  | ks, rs, hp, h => by
    show (decide (((rs.map rowD).length : Int) = ks.length) && (ks.zip (rs.map rowD)).all fun x => isMsg x.1 x.2) = true
    rw [List.length_map, h.len]
    simp only [decide_true, Bool.true_and]
    induction h with
    | nil => rfl
    | cons h1 h2 h ih =>
      rename_i k r ks rs
      rw [List.map_cons, List.zip_cons_cons, List.all_cons, ih (fun k hk => hp k (by simp [hk])), Bool.and_true]
      show ((r.map PyData.int).all (fun x => isBelow x k.p) && decide (((r.map PyData.int).length : Int) = k.m)) = true
      rw [hp k (by simp), isMsg_aux (m := 0) h2, List.length_map, h1]
      simp
theorem inOne_m {ks : List Ky} (h : ks ≠ []) : (inOne ks).m = (ks.map (·.m)).sum := by
  cases ks with
  | nil => exact absurd rfl h
  | cons k ks =>
    have key : ∀ (l : List Ky) (k : Ky), (l.foldl stack k).m = k.m + (l.map (·.m)).sum := by
      intro l
      induction l with
      | nil => intro k; simp
      | cons x l ih =>
        intro k
        rw [List.foldl_cons, ih]
        simp [stack]
        omega
    show ((ks.foldl stack k)).m = _
    rw [key]
    simp
theorem sc_is_binding : FnScope ["keys", "lot", "thing", "own", "some", "row"] ["keys", "lot", "thing"] (defScope s_is_binding) := ⟨rfl, rfl, rfl, by decide +kernel, rfl, by decide +kernel, by decide +kernel⟩
abbrev lv_is_binding : Nat := 11
def dom_is_binding : List PyData → (PyData → Prop) → Prop := fun ds0 P0 => ∃ (p n : Nat) (ks : List Ky) (lot : List Int) (d e t : PyData), ds0 = [d, e, t] ∧ (KsOk p n ks) ∧ (LotOk n lot) ∧ (tup d = keysD ks ∧ TOk 6 d) ∧ (tup e = rowD lot ∧ TOk 6 e) ∧ (DSm t) ∧ P0 = (fun z => z = .bool (isBind p ks lot t))
abbrev sp_is_binding (K : PySem.W.Frag) : Sp := SpD K dom_is_binding
theorem xc_is_binding {K : PySem.W.Frag} {tr : TA} {δ : List Sl} {p n : Nat} {ks : List Ky} {lot : List Int} {d e t : PyData} (h0 : XAD K tr δ [d, e, t]) (h1 : KsOk p n ks) (h2 : LotOk n lot) (h3 : tup d = keysD ks ∧ TOk 6 d) (h4 : tup e = rowD lot ∧ TOk 6 e) (h5 : DSm t) : XD K (tCall (sp_is_binding K) [] E0 tr) δ (.bool (isBind p ks lot t)) := xd_callD h0 ⟨_, _, _, _, _, _, _, rfl, h1, h2, h3, h4, h5, rfl⟩
theorem ok_is_binding (D : Df K mg "is_binding" s_is_binding) (B : Bi mg) (C_in_one : Call1 P w K mg base CX0 lv_in_one "in_one" (sp_in_one K)) (C_is_joint_row : Call1 P w K mg base CX0 lv_is_joint_row "is_joint_row" (sp_is_joint_row K)) (C_lot_of_keys : Call1 P w K mg base CX0 lv_lot_of_keys "lot_of_keys" (sp_lot_of_keys K)) (C_marks_none : Call1 P w K mg base CX0 lv_marks_none "marks_none" (sp_marks_none K)) (C_one_row : Call1 P w K mg base CX0 lv_one_row "one_row" (sp_one_row K)) (C_sure_keys : Call1 P w K mg base CX0 lv_sure_keys "sure_keys" (sp_sure_keys K)) : Call1 P w K mg base CX0 lv_is_binding "is_binding" (sp_is_binding K) := by
  refine fun_ok (k := 10) (N := ["keys", "lot", "thing", "own", "some", "row"]) (ps := ["keys", "lot", "thing"]) D sc_is_binding (fun ds0 P0 hd => by obtain ⟨p, n, ks, lot, d, e, t, rfl, h1, h2, h3, h4, h5, rfl⟩ := hd; rfl) (fun _ _ _ _ _ _ us hl => match us, hl with | [_, _, _], _ => rfl) fun f cdv A outer s H E hr => ⟨_, 
    (pss_cons (ps_set (i := 3) sc_is_binding.nd rfl (by first | exact Or.inl rfl | exact Or.inr rfl) (pe_callC C_sure_keys (hr.mono (by decide)) (by rfl) (pa_cons (pv 0) pa_nil)) (hf := (by first | exact Or.inl rfl | exact Or.inr rfl)))
      (pss_cons (ps_set (i := 4) sc_is_binding.nd rfl (by first | exact Or.inl rfl | exact Or.inr rfl) (pe_callC C_lot_of_keys (hr.mono (by decide)) (by rfl) (pa_cons (pv 3) (pa_cons (pv 1) pa_nil))) (hf := (by first | exact Or.inl rfl | exact Or.inr rfl)))
      (pss_cons (ps_if (PW.pt (pw_or (pt_not (pt_val (pe_callC C_is_joint_row (hr.mono (by decide)) (by rfl) (pa_cons (pv 3) (pa_cons (pv 2) pa_nil))))) (pw_or1 (pt_not (pt_val (pe_callB (cAny (K := K) rfl) (by rfl) B.any (by decide +kernel) (pa_cons (pe_lc (own := [("row", 5)]) (g := (gName 5)) (tt := tYes) rfl sc_is_binding.nd (piSeq (K := K) (pv 2)) (blkOk_by (N := ["keys", "lot", "thing", "own", "some", "row"]) (sc := defScope s_is_binding) (by decide +kernel)) (fun _ _ _ _ _ => (pgN (i := 5) sc_is_binding.nd rfl (by first | exact Or.inl rfl | exact Or.inr rfl) (by first | exact Or.inl rfl | exact Or.inr rfl))) (fun _ _ _ _ _ => pts_nil) (fun _ _ _ _ _ => (pe_callB (cAnyT (K := K) rfl) (by rfl) B.any (by decide +kernel) (pa_cons (pv 5) pa_nil)))) pa_nil))))))) (pss_one (ps_ret pe_bl)) pss_nil)
      (pss_one (ps_ret (pe_callC C_marks_none (hr.mono (by decide)) (by rfl) (pa_cons (pe_callC C_in_one (hr.mono (by decide)) (by rfl) (pa_cons (pv 3) pa_nil)) (pa_cons (pv 4) (pa_cons (pe_callC C_one_row (hr.mono (by decide)) (by rfl) (pa_cons (pv 2) pa_nil)) pa_nil))))))))), fun ds0 P0 hd => ?_⟩
  obtain ⟨p, n, ks, lot, d, e, t, rfl, h1, h2, h3, h4, h5, rfl⟩ := hd
  have hW := inOne_all h1
  have a5 := h1.len
  refine sj_seq (sj_asgD (xc_sure_keys (xad_cons (xd_var rfl) xad_nil) h1 h3.1 h3.2) ?_)
  refine sj_seq (sj_asgD (xc_lot_of_keys (xad_cons (xd_var rfl) (xad_cons (xd_var rfl) xad_nil)) h1 h4.1 h4.2 h2) ?_)
  cases hj : isJoint ks t with
  | false =>
    refine sj_seq (sj_ifT (XT.is (xt_or (b := true) (c := false) (xt_not (b := false) (xt_val ((xc_is_joint_row (xad_cons (xd_var rfl) (xad_cons (xd_var rfl) xad_nil)) h5 (by omega)).is (by rw [hj])))) fun z => nomatch z) rfl) (sj_retD xd_bl ?_))
    simp [isBind, hj]
  | true =>
    obtain ⟨e1, e2⟩ := joint_rows (fun k hk => (h1.all k hk).1.pp) hj
    rw [e1]
    generalize toRows t = rs at e1 e2
    subst e1
    have hl := e2.len
    obtain ⟨f1, f2⟩ := e2.flat
    rw [← inOne_m h1.ne] at f1
    refine sj_seq (sj_if (XT.is (xt_or (b := false) (xt_not (b := true) (xt_val ((xc_is_joint_row (xad_cons (xd_var rfl) (xad_cons (xd_var rfl) xad_nil)) h5 (by omega)).is (by rw [hj])))) fun _ => (xt_not (xt_val (xd_cb (xad_cons (xd_lcMap (xs := rs) (A := rowD) (js := [5]) (xid_seqT (xd_var rfl)) (by simp) ?_ (fun x hx => xg_name) (fun x hx => (xd_cb (xad_cons (xd_var rfl) xad_nil) rc_anyT))) xad_nil) rc_anyE)))) (Bool.false_or _)) (fun hb => sj_retD xd_bl ?_) (fun hb => sj_next ?_))
    · omega
    · have : (rs.any fun r => r.any fun i => i != 0) = false := by simpa using hb
      simp only [isBind, rowsD_toRows, bindR, this, Bool.false_and, Bool.and_false]
    · have : (rs.any fun r => r.any fun i => i != 0) = true := by simpa using hb
      refine sj_retD (xc_marks_none (p := p) (n := n) (xad_cons (xc_in_one (xad_cons (xd_var rfl) xad_nil) h1) (xad_cons (xd_var rfl) (xad_cons (xc_one_row (xad_cons (xd_var rfl) xad_nil) ?_ ?_) xad_nil))) h1.hp hW h1.n1 f1 f2) ?_
      · intro r hr
        obtain ⟨_, k, hk, e⟩ := e2.row r hr
        have := (h1.all k hk).2
        omega
      · omega
      · simp only [isBind, rowsD_toRows, bindR, this, hj, Bool.true_and]
end
end Dry

set_option Elab.async false
set_option linter.all false
set_option maxRecDepth 100000
set_option maxHeartbeats 4000000
namespace Dry
open PySem PySem.Spec PyProof.Rows L2 RZ
section
variable {P : Program} {w : World} {K : PySem.W.Frag} {mg : Str → Option Value} {base : Heap}
theorem sc_l_is_number : FnScope ["_law_own"] ["_law_own"] (defScope s_l_is_number) := ⟨rfl, rfl, rfl, by decide +kernel, rfl, by decide +kernel, by decide +kernel⟩
abbrev lv_l_is_number : Nat := 1
def dom_l_is_number : List PyData → (PyData → Prop) → Prop := fun ds0 P0 => ∃ (d : PyData), ds0 = [d] ∧ P0 = (fun z => z = .bool (isNum d))
abbrev sp_l_is_number (K : PySem.W.Frag) : Sp := SpD K dom_l_is_number
theorem xc_l_is_number {K : PySem.W.Frag} {tr : TA} {δ : List Sl} {d : PyData} (h0 : XAD K tr δ [d]) : XD K (tCall (sp_l_is_number K) [] E0 tr) δ (.bool (isNum d)) := xd_callD h0 ⟨_, rfl, rfl⟩
theorem ok_l_is_number (D : Df K mg "_law_is_number" s_l_is_number) (B : Bi mg) : Call1 P w K mg base CX0 lv_l_is_number "_law_is_number" (sp_l_is_number K) := by
  refine fun_ok (k := 0) (N := ["_law_own"]) (ps := ["_law_own"]) D sc_l_is_number (fun ds0 P0 hd => by obtain ⟨d, rfl, rfl⟩ := hd; rfl) (fun _ _ _ _ _ _ us hl => match us, hl with | [_], _ => rfl) fun f cdv A outer s H E hr => ⟨_, 
    (pss_one (ps_ret (pe_and (pe_callB (cIsi (K := K)) (by rfl) B.isinstance (by decide +kernel) (pa_cons (pv 0) (pa_cons (pe_bltn (v := .ty "int") (by rfl) B.int (by decide +kernel) rfl) pa_nil))) (pe_one (pe_not (pe_callB (cIsi (K := K)) (by rfl) B.isinstance (by decide +kernel) (pa_cons (pv 0) (pa_cons (pe_bltn (v := .ty "bool") (by rfl) B.bool (by decide +kernel) rfl) pa_nil)))))))), fun ds0 P0 hd => ?_⟩
  obtain ⟨d, rfl, rfl⟩ := hd
  exact sj_retD (xd_and (xd_isi (xd_var rfl) kit_int) fun _ => (xd_not (xd_isi (xd_var rfl) kit_bool))) rfl
theorem sc_l_put : FnScope ["_law_row_so", "_law_place_so", "_law_bit_so"] ["_law_row_so", "_law_place_so", "_law_bit_so"] (defScope s_l_put) := ⟨rfl, rfl, rfl, by decide +kernel, rfl, by decide +kernel, by decide +kernel⟩
def putR (rs : List (List Int)) (j : Nat) (r : List Int) : List (List Int) := rs.take j ++ [r] ++ rs.drop (j + 1)
abbrev lv_l_put : Nat := 1
def dom_l_put : List PyData → (PyData → Prop) → Prop := fun ds0 P0 => ∃ (rs : List (List Int)) (j : Nat) (r : List Int), ds0 = [rowsD rs, .int j, rowD r] ∧ (rs.length ≤ 100) ∧ P0 = (fun z => z = rowsD (putR rs j r))
abbrev sp_l_put (K : PySem.W.Frag) : Sp := SpD K dom_l_put
theorem xc_l_put {K : PySem.W.Frag} {tr : TA} {δ : List Sl} {rs : List (List Int)} {j : Nat} {r : List Int} (h0 : XAD K tr δ [rowsD rs, .int j, rowD r]) (h1 : rs.length ≤ 100) : XD K (tCall (sp_l_put K) [] E0 tr) δ (rowsD (putR rs j r)) := xd_callD h0 ⟨_, _, _, rfl, h1, rfl⟩
theorem ok_l_put (D : Df K mg "_law_put" s_l_put) (B : Bi mg) : Call1 P w K mg base CX0 lv_l_put "_law_put" (sp_l_put K) := by
  refine fun_ok (k := 0) (N := ["_law_row_so", "_law_place_so", "_law_bit_so"]) (ps := ["_law_row_so", "_law_place_so", "_law_bit_so"]) D sc_l_put (fun ds0 P0 hd => by obtain ⟨rs, j, r, rfl, h1, rfl⟩ := hd; rfl) (fun _ _ _ _ _ _ us hl => match us, hl with | [_, _, _], _ => rfl) fun f cdv A outer s H E hr => ⟨_, 
    (pss_one (ps_ret (pe_op (opCatT (K := K)) (pe_op (opCatT (K := K)) (pe_slice (slT (K := K)) (pv 0) po_none (po_some (pv 1))) (pe_tup (pa_cons (pv 2) pa_nil))) (pe_slice (slT (K := K)) (pv 0) (po_some (pe_op op_add (pv 1) pe_int)) po_none)))), fun ds0 P0 hd => ?_⟩
  obtain ⟨rs, j, r, rfl, h1, rfl⟩ := hd
  have e1 : ((j : Nat) : Int) + 1 = ((j + 1 : Nat) : Int) := by omega
  refine sj_retD (xd_op (xd_op (xd_slE (xd_var rfl) xo_none (xo_some (xd_var rfl))) (xd_tup1 rowD (xd_var rfl)) (rd_catE ?_)) (xd_slE (xd_var rfl) (xo_some (xd_op (xd_var rfl) xd_int rd_I0)) xo_none) (rd_catE ?_)) ?_
  · rw [cut_take]; simp; omega
  · rw [e1, cut_take, cut_drop]; simp; omega
  · rw [e1, cut_take, cut_drop]
    rfl
abbrev picD (top : Nat) (rs : List (List Int)) : PyData := .tuple [.int top, rowsD rs]
structure PicOk (top n : Nat) (rs : List (List Int)) : Prop where
  t0 : 3 ≤ top
  t1 : top ≤ 100
  len : rs.length ≤ 100
  flat : rs.flatten.length = n
  n1 : n ≤ 10
  lt : ∀ g ∈ rs.flatten, 0 ≤ g ∧ g ≤ (top : Int)
theorem sc_l_greys : FnScope ["_law_picture_so", "_law_own"] ["_law_picture_so"] (defScope s_l_greys) := ⟨rfl, rfl, rfl, by decide +kernel, rfl, by decide +kernel, by decide +kernel⟩
abbrev lv_l_greys : Nat := 1
def dom_l_greys : List PyData → (PyData → Prop) → Prop := fun ds0 P0 => ∃ (top : Nat) (rs : List (List Int)), ds0 = [picD top rs] ∧ (rs.length ≤ 100) ∧ (rs.flatten.length ≤ 1000) ∧ P0 = (fun z => z = .list (rs.flatten.map PyData.int))
abbrev sp_l_greys (K : PySem.W.Frag) : Sp := SpD K dom_l_greys
theorem xc_l_greys {K : PySem.W.Frag} {tr : TA} {δ : List Sl} {top : Nat} {rs : List (List Int)} (h0 : XAD K tr δ [picD top rs]) (h1 : rs.length ≤ 100) (h2 : rs.flatten.length ≤ 1000) : XD K (tCall (sp_l_greys K) [] E0 tr) δ (.list (rs.flatten.map PyData.int)) := xd_callD h0 ⟨_, _, rfl, h1, h2, rfl⟩
theorem ok_l_greys (D : Df K mg "_law_greys" s_l_greys) (B : Bi mg) : Call1 P w K mg base CX0 lv_l_greys "_law_greys" (sp_l_greys K) := by
  refine fun_ok (k := 0) (N := ["_law_picture_so", "_law_own"]) (ps := ["_law_picture_so"]) D sc_l_greys (fun ds0 P0 hd => by obtain ⟨top, rs, rfl, h1, h2, rfl⟩ := hd; rfl) (fun _ _ _ _ _ _ us hl => match us, hl with | [_], _ => rfl) fun f cdv A outer s H E hr => ⟨_, 
    (pss_one (ps_ret (pe_callB (cSum2 (K := K) rfl) (by rfl) B.sum (by decide +kernel) (pa_cons (pe_lc (own := [("_law_own", 1)]) (g := (gName 1)) (tt := tYes) rfl sc_l_greys.nd (piTup (K := K) (pe_ix (ixT (K := K)) (pv 0) pe_int (fun _ _ => rfl))) (blkOk_by (N := ["_law_picture_so", "_law_own"]) (sc := defScope s_l_greys) (by decide +kernel)) (fun _ _ _ _ _ => (pgN (i := 1) sc_l_greys.nd rfl (by first | exact Or.inl rfl | exact Or.inr rfl) (by first | exact Or.inl rfl | exact Or.inr rfl))) (fun _ _ _ _ _ => pts_nil) (fun _ _ _ _ _ => (pe_callTy (cList (K := K)) (by rfl) B.list (by decide +kernel) (pa_cons (pv 1) pa_nil)))) (pa_cons (pe_lst pa_nil) pa_nil))))), fun ds0 P0 hd => ?_⟩
  obtain ⟨top, rs, rfl, h1, h2, rfl⟩ := hd
  refine sj_retD (xd_cb (xad_cons (xd_lcMap (xs := rs) (A := rowD) (js := [1]) (xid_tup (xd_op (xd_var rfl) xd_int (rd_ixT rfl))) (by simp) ?_ (fun x hx => xg_name) (fun x hx => (xd_cbN (xad_cons (xd_var rfl) xad_nil) rcn_listT))) (xad_cons (xd_lst xad_nil (by simp)) xad_nil)) (rc_sumL (dss := rs.map (·.map PyData.int)) ?_ ?_)) ?_
  · omega
  · rw [List.map_map]; rfl
  · rw [← List.map_flatten, List.length_map]; omega
  · rw [← List.map_flatten]
theorem sc_l_shaped : FnScope ["_law_picture_so", "_law_greys_so", "_law_wide_so", "_law_k"] ["_law_picture_so", "_law_greys_so"] (defScope s_l_shaped) := ⟨rfl, rfl, rfl, by decide +kernel, rfl, by decide +kernel, by decide +kernel⟩
abbrev lv_l_shaped : Nat := 1
def dom_l_shaped : List PyData → (PyData → Prop) → Prop := fun ds0 P0 => ∃ (top : Nat) (rs : List (List Int)) (gs : List Int) (wide : Nat), ds0 = [picD top rs, .list (gs.map PyData.int)] ∧ (rs.length ≤ 100) ∧ (0 < rs.length) ∧ ((rs.getD 0 []).length = wide) ∧ (wide ≤ 1000) ∧ P0 = (fun z => z = picD top ((List.range rs.length).map fun k => (gs.take ((k + 1) * wide)).drop (k * wide)))
abbrev sp_l_shaped (K : PySem.W.Frag) : Sp := SpD K dom_l_shaped
theorem xc_l_shaped {K : PySem.W.Frag} {tr : TA} {δ : List Sl} {top : Nat} {rs : List (List Int)} {gs : List Int} {wide : Nat} (h0 : XAD K tr δ [picD top rs, .list (gs.map PyData.int)]) (h1 : rs.length ≤ 100) (h2 : 0 < rs.length) (h3 : (rs.getD 0 []).length = wide) (h4 : wide ≤ 1000) : XD K (tCall (sp_l_shaped K) [] E0 tr) δ (picD top ((List.range rs.length).map fun k => (gs.take ((k + 1) * wide)).drop (k * wide))) := xd_callD h0 ⟨_, _, _, _, rfl, h1, h2, h3, h4, rfl⟩
theorem ok_l_shaped (D : Df K mg "_law_shaped" s_l_shaped) (B : Bi mg) : Call1 P w K mg base CX0 lv_l_shaped "_law_shaped" (sp_l_shaped K) := by
  refine fun_ok (k := 0) (N := ["_law_picture_so", "_law_greys_so", "_law_wide_so", "_law_k"]) (ps := ["_law_picture_so", "_law_greys_so"]) D sc_l_shaped (fun ds0 P0 hd => by obtain ⟨top, rs, gs, wide, rfl, h1, h2, h3, h4, rfl⟩ := hd; rfl) (fun _ _ _ _ _ _ us hl => match us, hl with | [_, _], _ => rfl) fun f cdv A outer s H E hr => ⟨_, 
    (pss_cons (ps_set (i := 2) sc_l_shaped.nd rfl (by first | exact Or.inl rfl | exact Or.inr rfl) (pe_callB (cLen (K := K)) (by rfl) B.len PySem.boot_len (pa_cons (pe_ix (ixT (K := K)) (pe_ix (ixT (K := K)) (pv 0) pe_int (fun _ _ => rfl)) pe_int (fun _ _ => rfl)) pa_nil)) (hf := (by first | exact Or.inl rfl | exact Or.inr rfl)))
      (pss_one (ps_ret (pe_tup (pa_cons (pe_ix (ixT (K := K)) (pv 0) pe_int (fun _ _ => rfl)) (pa_cons (pe_callTy (cTuple (K := K)) (by rfl) B.tuple (by decide +kernel) (pa_cons (pe_lc (own := [("_law_k", 3)]) (g := (gName 3)) (tt := tYes) rfl sc_l_shaped.nd (pi_range1 (by rfl) B.range (pa_cons (pe_callB (cLen (K := K)) (by rfl) B.len PySem.boot_len (pa_cons (pe_ix (ixT (K := K)) (pv 0) pe_int (fun _ _ => rfl)) pa_nil)) pa_nil)) (blkOk_by (N := ["_law_picture_so", "_law_greys_so", "_law_wide_so", "_law_k"]) (sc := defScope s_l_shaped) (by decide +kernel)) (fun _ _ _ _ _ => (pgN (i := 3) sc_l_shaped.nd rfl (by first | exact Or.inl rfl | exact Or.inr rfl) (by first | exact Or.inl rfl | exact Or.inr rfl))) (fun _ _ _ _ _ => pts_nil) (fun _ _ _ _ _ => (pe_callTy (cTuple (K := K)) (by rfl) B.tuple (by decide +kernel) (pa_cons (pe_slice (slL (K := K)) (pv 1) (po_some (pe_op op_mul (pv 3) (pv 2))) (po_some (pe_op op_mul (pe_op op_add (pv 3) pe_int) (pv 2)))) pa_nil)))) pa_nil)) pa_nil)))))), fun ds0 P0 hd => ?_⟩
  obtain ⟨top, rs, gs, wide, rfl, h1, h2, h3, h4, rfl⟩ := hd
  refine sj_seq (sj_asgD (xd_cb (xad_cons (xd_op (xd_op (xd_var rfl) xd_int (rd_ixT rfl)) xd_int (rd_ixC 0 [] rfl ?_)) xad_nil) rc_lenE) ?_)
  · exact h2
  · rw [h3]
    refine sj_retD (xd_tup (xad_cons (xd_op (xd_var rfl) xd_int (rd_ixT rfl)) (xad_cons (xd_cb (xad_cons (xd_lcMap (xs := List.range rs.length) (A := fun i : Nat => PyData.int (i : Int)) (F := fun k => rowD ((gs.take ((k + 1) * wide)).drop (k * wide))) (js := [3]) (xid_rangeN (xad_cons (xd_cb (xad_cons (xd_op (xd_var rfl) xd_int (rd_ixT rfl)) xad_nil) rc_lenE) xad_nil) ?_) (by simp) ?_ (fun x hx => xg_name) (fun x hx => (xd_cb (xad_cons ((XN.xd fun n => xn_slL (xd_var rfl) (xo_some (xd_op (xd_var rfl) (xd_var rfl) (rd_I ?_))) (xo_some (xd_op (xd_op (xd_var rfl) xd_int rd_I0) (xd_var rfl) (rd_I ?_)))).is (e := .list (((gs.take ((x + 1) * wide)).drop (x * wide)).map PyData.int)) ?_) xad_nil) rc_tupleL))) xad_nil) (rc_tupE (enc := rowD) (g := fun k => (gs.take ((k + 1) * wide)).drop (k * wide)))) xad_nil)) (by simp)) rfl
    · omega
    · simp; omega
    · exact .inr ⟨by omega, by omega⟩
    · exact .inr ⟨by omega, by omega⟩
    · have e1 : ((x : Nat) : Int) * (wide : Int) = ((x * wide : Nat) : Int) := by simp
      have e2 : (((x : Nat) : Int) + 1) * (wide : Int) = (((x + 1) * wide : Nat) : Int) := by simp
      rw [e1, e2, cutP_map, cut_mid]
theorem sc_l_rests : FnScope ["_law_picture_so", "_law_p_so", "_law_own"] ["_law_picture_so", "_law_p_so"] (defScope s_l_rests) := ⟨rfl, rfl, rfl, by decide +kernel, rfl, by decide +kernel, by decide +kernel⟩
def restsOf (p : Nat) (rs : List (List Int)) : List Int := rs.flatten.map fun g => g % (p : Int)
abbrev lv_l_rests : Nat := 2
def dom_l_rests : List PyData → (PyData → Prop) → Prop := fun ds0 P0 => ∃ (top p : Nat) (rs : List (List Int)), ds0 = [picD top rs, .int p] ∧ (rs.length ≤ 100) ∧ (rs.flatten.length ≤ 1000) ∧ (p = 2 ∨ p = 3) ∧ P0 = (fun z => z = rowD (restsOf p rs))
abbrev sp_l_rests (K : PySem.W.Frag) : Sp := SpD K dom_l_rests
theorem xc_l_rests {K : PySem.W.Frag} {tr : TA} {δ : List Sl} {top p : Nat} {rs : List (List Int)} (h0 : XAD K tr δ [picD top rs, .int p]) (h1 : rs.length ≤ 100) (h2 : rs.flatten.length ≤ 1000) (hp : p = 2 ∨ p = 3) : XD K (tCall (sp_l_rests K) [] E0 tr) δ (rowD (restsOf p rs)) := xd_callD h0 ⟨_, _, _, rfl, h1, h2, hp, rfl⟩
theorem ok_l_rests (D : Df K mg "_law_rests" s_l_rests) (B : Bi mg) (C_l_greys : Call1 P w K mg base CX0 lv_l_greys "_law_greys" (sp_l_greys K)) : Call1 P w K mg base CX0 lv_l_rests "_law_rests" (sp_l_rests K) := by
  refine fun_ok (k := 1) (N := ["_law_picture_so", "_law_p_so", "_law_own"]) (ps := ["_law_picture_so", "_law_p_so"]) D sc_l_rests (fun ds0 P0 hd => by obtain ⟨top, p, rs, rfl, h1, h2, hp, rfl⟩ := hd; rfl) (fun _ _ _ _ _ _ us hl => match us, hl with | [_, _], _ => rfl) fun f cdv A outer s H E hr => ⟨_, 
    (pss_one (ps_ret (pe_callTy (cTuple (K := K)) (by rfl) B.tuple (by decide +kernel) (pa_cons (pe_lc (own := [("_law_own", 2)]) (g := (gName 2)) (tt := tYes) rfl sc_l_rests.nd (piList (K := K) (pe_callC C_l_greys (hr.mono (by decide)) (by rfl) (pa_cons (pv 0) pa_nil))) (blkOk_by (N := ["_law_picture_so", "_law_p_so", "_law_own"]) (sc := defScope s_l_rests) (by decide +kernel)) (fun _ _ _ _ _ => (pgN (i := 2) sc_l_rests.nd rfl (by first | exact Or.inl rfl | exact Or.inr rfl) (by first | exact Or.inl rfl | exact Or.inr rfl))) (fun _ _ _ _ _ => pts_nil) (fun _ _ _ _ _ => (pe_op op_mod (pv 2) (pv 1)))) pa_nil)))), fun ds0 P0 hd => ?_⟩
  obtain ⟨top, p, rs, rfl, h1, h2, hp, rfl⟩ := hd
  refine sj_retD (xd_cb (xad_cons (xd_lcMap (js := [2]) (xid_list (xc_l_greys (xad_cons (xd_var rfl) xad_nil) h1 h2)) (by simp) ?_ (fun x hx => xg_name) (fun x hx => (xd_op (xd_var rfl) (xd_var rfl) (rd_I ?_)))) xad_nil) (rc_tupE (enc := PyData.int))) rfl
  · omega
  · exact pp hp
theorem sc_l_row_plus : FnScope ["_law_one_so", "_law_two_so", "_law_p_so", "_law_near_so", "_law_far_so"] ["_law_one_so", "_law_two_so", "_law_p_so"] (defScope s_l_row_plus) := ⟨rfl, rfl, rfl, by decide +kernel, rfl, by decide +kernel, by decide +kernel⟩
def rowPlus (p : Nat) (a b : List Int) : List Int := (a.zip b).map fun x => (x.1 + x.2) % (p : Int)
abbrev lv_l_row_plus : Nat := 1
def dom_l_row_plus : List PyData → (PyData → Prop) → Prop := fun ds0 P0 => ∃ (p : Nat) (a b : List Int), ds0 = [rowD a, rowD b, .int p] ∧ (p = 2 ∨ p = 3) ∧ (a.length ≤ 1000) ∧ P0 = (fun z => z = rowD (rowPlus p a b))
abbrev sp_l_row_plus (K : PySem.W.Frag) : Sp := SpD K dom_l_row_plus
theorem xc_l_row_plus {K : PySem.W.Frag} {tr : TA} {δ : List Sl} {p : Nat} {a b : List Int} (h0 : XAD K tr δ [rowD a, rowD b, .int p]) (hp : p = 2 ∨ p = 3) (h1 : a.length ≤ 1000) : XD K (tCall (sp_l_row_plus K) [] E0 tr) δ (rowD (rowPlus p a b)) := xd_callD h0 ⟨_, _, _, rfl, hp, h1, rfl⟩
theorem ok_l_row_plus (D : Df K mg "_law_row_plus" s_l_row_plus) (B : Bi mg) : Call1 P w K mg base CX0 lv_l_row_plus "_law_row_plus" (sp_l_row_plus K) := by
  refine fun_ok (k := 0) (N := ["_law_one_so", "_law_two_so", "_law_p_so", "_law_near_so", "_law_far_so"]) (ps := ["_law_one_so", "_law_two_so", "_law_p_so"]) D sc_l_row_plus (fun ds0 P0 hd => by obtain ⟨p, a, b, rfl, hp, h1, rfl⟩ := hd; rfl) (fun _ _ _ _ _ _ us hl => match us, hl with | [_, _, _], _ => rfl) fun f cdv A outer s H E hr => ⟨_, 
    (pss_one (ps_ret (pe_callTy (cTuple (K := K)) (by rfl) B.tuple (by decide +kernel) (pa_cons (pe_lc (own := [("_law_near_so", 3), ("_law_far_so", 4)]) (g := (gTup K 2 (gCons (gName 3) (gCons (gName 4) gNil)))) (tt := tYes) rfl sc_l_row_plus.nd (piZip (K := K) (by rfl) B.zip (pa_cons (pv 0) (pa_cons (pv 1) pa_nil))) (blkOk_by (N := ["_law_one_so", "_law_two_so", "_law_p_so", "_law_near_so", "_law_far_so"]) (sc := defScope s_l_row_plus) (by decide +kernel)) (fun _ _ _ _ _ => (pgTup (K := K) rfl (pgs_cons (pgN (i := 3) sc_l_row_plus.nd rfl (by first | exact Or.inl rfl | exact Or.inr rfl) (by first | exact Or.inl rfl | exact Or.inr rfl)) (pgs_cons (pgN (i := 4) sc_l_row_plus.nd rfl (by first | exact Or.inl rfl | exact Or.inr rfl) (by first | exact Or.inl rfl | exact Or.inr rfl)) pgs_nil)))) (fun _ _ _ _ _ => pts_nil) (fun _ _ _ _ _ => (pe_op op_mod (pe_op op_add (pv 3) (pv 4)) (pv 2)))) pa_nil)))), fun ds0 P0 hd => ?_⟩
  obtain ⟨p, a, b, rfl, hp, h1, rfl⟩ := hd
  refine sj_retD (xd_cb (xad_cons (xd_lcMap (js := [3, 4]) ((xid_zipT (xad_cons (xd_var rfl) (xad_cons (xd_var rfl) xad_nil))).is zipD_map) (by simp) ?_ (fun x hx => xg_tup2) (fun x hx => (xd_op (xd_op (xd_var rfl) (xd_var rfl) rd_I0) (xd_var rfl) (rd_I ?_)))) xad_nil) (rc_tupE (enc := PyData.int))) ?_
  · simp; omega
  · exact pp hp
  · rfl
theorem sc_l_row_times : FnScope ["_law_digit_so", "_law_row_so", "_law_p_so", "_law_own"] ["_law_digit_so", "_law_row_so", "_law_p_so"] (defScope s_l_row_times) := ⟨rfl, rfl, rfl, by decide +kernel, rfl, by decide +kernel, by decide +kernel⟩
abbrev lv_l_row_times : Nat := 1
def dom_l_row_times : List PyData → (PyData → Prop) → Prop := fun ds0 P0 => ∃ (p : Nat) (d : Int) (a : List Int), ds0 = [.int d, rowD a, .int p] ∧ (p = 2 ∨ p = 3) ∧ (0 ≤ d ∧ d < (p : Int)) ∧ (a.length ≤ 1000) ∧ P0 = (fun z => z = rowD (rowTimes p d a))
abbrev sp_l_row_times (K : PySem.W.Frag) : Sp := SpD K dom_l_row_times
theorem xc_l_row_times {K : PySem.W.Frag} {tr : TA} {δ : List Sl} {p : Nat} {d : Int} {a : List Int} (h0 : XAD K tr δ [.int d, rowD a, .int p]) (hp : p = 2 ∨ p = 3) (hd0 : 0 ≤ d ∧ d < (p : Int)) (h1 : a.length ≤ 1000) : XD K (tCall (sp_l_row_times K) [] E0 tr) δ (rowD (rowTimes p d a)) := xd_callD h0 ⟨_, _, _, rfl, hp, hd0, h1, rfl⟩
theorem ok_l_row_times (D : Df K mg "_law_row_times" s_l_row_times) (B : Bi mg) : Call1 P w K mg base CX0 lv_l_row_times "_law_row_times" (sp_l_row_times K) := by
  refine fun_ok (k := 0) (N := ["_law_digit_so", "_law_row_so", "_law_p_so", "_law_own"]) (ps := ["_law_digit_so", "_law_row_so", "_law_p_so"]) D sc_l_row_times (fun ds0 P0 hd => by obtain ⟨p, d, a, rfl, hp, hd0, h1, rfl⟩ := hd; rfl) (fun _ _ _ _ _ _ us hl => match us, hl with | [_, _, _], _ => rfl) fun f cdv A outer s H E hr => ⟨_, 
    (pss_one (ps_ret (pe_callTy (cTuple (K := K)) (by rfl) B.tuple (by decide +kernel) (pa_cons (pe_lc (own := [("_law_own", 3)]) (g := (gName 3)) (tt := tYes) rfl sc_l_row_times.nd (piTup (K := K) (pv 1)) (blkOk_by (N := ["_law_digit_so", "_law_row_so", "_law_p_so", "_law_own"]) (sc := defScope s_l_row_times) (by decide +kernel)) (fun _ _ _ _ _ => (pgN (i := 3) sc_l_row_times.nd rfl (by first | exact Or.inl rfl | exact Or.inr rfl) (by first | exact Or.inl rfl | exact Or.inr rfl))) (fun _ _ _ _ _ => pts_nil) (fun _ _ _ _ _ => (pe_op op_mod (pe_op op_mul (pv 0) (pv 3)) (pv 2)))) pa_nil)))), fun ds0 P0 hd => ?_⟩
  obtain ⟨p, d, a, rfl, hp, hd0, h1, rfl⟩ := hd
  refine sj_retD (xd_cb (xad_cons (xd_lcMap (js := [3]) (xid_tup (xd_var rfl)) (by simp) ?_ (fun x hx => xg_name) (fun x hx => (xd_op (xd_op (xd_var rfl) (xd_var rfl) (rd_I ?_)) (xd_var rfl) (rd_I ?_)))) xad_nil) (rc_tupE (enc := PyData.int))) ?_
  · omega
  · exact cmul_l hd0 hp
  · exact pp hp
  · rfl
theorem sc_l_product : FnScope ["_law_one_so", "_law_two_so", "_law_p_so", "_law_near_so", "_law_far_so"] ["_law_one_so", "_law_two_so", "_law_p_so"] (defScope s_l_product) := ⟨rfl, rfl, rfl, by decide +kernel, rfl, by decide +kernel, by decide +kernel⟩
abbrev lv_l_product : Nat := 1
def dom_l_product : List PyData → (PyData → Prop) → Prop := fun ds0 P0 => ∃ (p : Nat) (a b : List Int), ds0 = [rowD a, rowD b, .int p] ∧ (p = 2 ∨ p = 3) ∧ (a.length ≤ 1000) ∧ (Dig p a) ∧ P0 = (fun z => z = .int (rowProd p a b))
abbrev sp_l_product (K : PySem.W.Frag) : Sp := SpD K dom_l_product
theorem xc_l_product {K : PySem.W.Frag} {tr : TA} {δ : List Sl} {p : Nat} {a b : List Int} (h0 : XAD K tr δ [rowD a, rowD b, .int p]) (hp : p = 2 ∨ p = 3) (h1 : a.length ≤ 1000) (h2 : Dig p a) : XD K (tCall (sp_l_product K) [] E0 tr) δ (.int (rowProd p a b)) := xd_callD h0 ⟨_, _, _, rfl, hp, h1, h2, rfl⟩
theorem ok_l_product (D : Df K mg "_law_product" s_l_product) (B : Bi mg) : Call1 P w K mg base CX0 lv_l_product "_law_product" (sp_l_product K) := by
  refine fun_ok (k := 0) (N := ["_law_one_so", "_law_two_so", "_law_p_so", "_law_near_so", "_law_far_so"]) (ps := ["_law_one_so", "_law_two_so", "_law_p_so"]) D sc_l_product (fun ds0 P0 hd => by obtain ⟨p, a, b, rfl, hp, h1, h2, rfl⟩ := hd; rfl) (fun _ _ _ _ _ _ us hl => match us, hl with | [_, _, _], _ => rfl) fun f cdv A outer s H E hr => ⟨_, 
    (pss_one (ps_ret (pe_op op_mod (pe_callB (cSum (K := K) rfl) (by rfl) B.sum (by decide +kernel) (pa_cons (pe_lc (own := [("_law_near_so", 3), ("_law_far_so", 4)]) (g := (gTup K 2 (gCons (gName 3) (gCons (gName 4) gNil)))) (tt := tYes) rfl sc_l_product.nd (piZip (K := K) (by rfl) B.zip (pa_cons (pv 0) (pa_cons (pv 1) pa_nil))) (blkOk_by (N := ["_law_one_so", "_law_two_so", "_law_p_so", "_law_near_so", "_law_far_so"]) (sc := defScope s_l_product) (by decide +kernel)) (fun _ _ _ _ _ => (pgTup (K := K) rfl (pgs_cons (pgN (i := 3) sc_l_product.nd rfl (by first | exact Or.inl rfl | exact Or.inr rfl) (by first | exact Or.inl rfl | exact Or.inr rfl)) (pgs_cons (pgN (i := 4) sc_l_product.nd rfl (by first | exact Or.inl rfl | exact Or.inr rfl) (by first | exact Or.inl rfl | exact Or.inr rfl)) pgs_nil)))) (fun _ _ _ _ _ => pts_nil) (fun _ _ _ _ _ => (pe_op op_mul (pv 3) (pv 4)))) pa_nil)) (pv 2)))), fun ds0 P0 hd => ?_⟩
  obtain ⟨p, a, b, rfl, hp, h1, h2, rfl⟩ := hd
  refine sj_retD (xd_op (xd_cb (xad_cons (xd_lcMap (js := [3, 4]) ((xid_zipT (xad_cons (xd_var rfl) (xad_cons (xd_var rfl) xad_nil))).is zipD_map) (by simp) ?_ (fun x hx => xg_tup2) (fun x hx => (xd_op (xd_var rfl) (xd_var rfl) (rd_I ?_)))) xad_nil) rc_sumE) (xd_var rfl) (rd_I ?_)) ?_
  · simp; omega
  · exact cmul_l (h2 x.1 (List.of_mem_zip hx).1) hp
  · exact pp hp
  · rfl
def extR (p : Nat) (r : List Int) : List (List Int) := (List.range p).map fun d => r ++ [((d : Nat) : Int)]
def allRows (p : Nat) : Nat → List (List Int)
  | 0 => [[]]
  | m + 1 => (allRows p m).flatMap (extR p)
theorem allRows_len {p m : Nat} : (allRows p m).length = p ^ m := by
  induction m with
  | zero => rfl
  | succ m ih =>
    unfold allRows
    rw [List.length_flatMap]
    have : ((allRows p m).map fun a => (extR p a).length) = List.replicate (allRows p m).length p := by
      rw [List.eq_replicate_iff]
      refine ⟨by simp, fun b hb => ?_⟩
      obtain ⟨x, _, rfl⟩ := List.mem_map.mp hb
      simp [extR]
    rw [this, ih, Nat.pow_succ]
    simp
theorem allRows_mem {p : Nat} : ∀ {m : Nat} {r : List Int}, r ∈ allRows p m ↔ r.length = m ∧ Dig p r
  | 0, r => by
    simp [allRows]
    rintro rfl
    exact fun x hx => by simp at hx
  | m + 1, r => by
    unfold allRows
    rw [List.mem_flatMap]
    constructor
    · rintro ⟨a, ha, hr⟩
      obtain ⟨h1, h2⟩ := allRows_mem.mp ha
      obtain ⟨d, hd, rfl⟩ := List.mem_map.mp hr
      refine ⟨by simp [h1], fun x hx => ?_⟩
      rcases List.mem_append.mp hx with hx | hx
      · exact h2 x hx
      · simp at hx hd
        omega
    · rintro ⟨h1, h2⟩
      have hne : r ≠ [] := fun e => by rw [e] at h1; simp at h1
      have e := List.dropLast_concat_getLast hne
      have hl := h2 _ (List.getLast_mem hne)
      refine ⟨r.dropLast, allRows_mem.mpr ⟨by simp [h1], fun x hx => h2 x (List.dropLast_subset r hx)⟩, List.mem_map.mpr ⟨(r.getLast hne).toNat, by simp; omega, ?_⟩⟩
      rw [show (((r.getLast hne).toNat : Nat) : Int) = r.getLast hne by omega]
      exact e
theorem pow_bound {p m : Nat} (hp : p = 2 ∨ p = 3) (hm : m ≤ 8) : p ^ m ≤ 6561 := by
  rcases hp with rfl | rfl
  · exact Nat.le_trans (Nat.pow_le_pow_right (by omega) hm) (by decide)
  · exact Nat.le_trans (Nat.pow_le_pow_right (by omega) hm) (by decide)
theorem sc_l_all_rows : FnScope ["_law_p_so", "_law_many_so", "_law_found", "_law_lap", "_law_longer_so", "_law_own", "_law_digit_so"] ["_law_p_so", "_law_many_so"] (defScope s_l_all_rows) := ⟨rfl, rfl, rfl, by decide +kernel, rfl, by decide +kernel, by decide +kernel⟩
abbrev lv_l_all_rows : Nat := 1
def dom_l_all_rows : List PyData → (PyData → Prop) → Prop := fun ds0 P0 => ∃ (p m : Nat), ds0 = [.int p, .int m] ∧ (p = 2 ∨ p = 3) ∧ (m ≤ 8) ∧ P0 = (fun z => z = .list ((allRows p m).map rowD))
abbrev sp_l_all_rows (K : PySem.W.Frag) : Sp := SpD K dom_l_all_rows
theorem xc_l_all_rows {K : PySem.W.Frag} {tr : TA} {δ : List Sl} {p m : Nat} (h0 : XAD K tr δ [.int p, .int m]) (hp : p = 2 ∨ p = 3) (h1 : m ≤ 8) : XD K (tCall (sp_l_all_rows K) [] E0 tr) δ (.list ((allRows p m).map rowD)) := xd_callD h0 ⟨_, _, rfl, hp, h1, rfl⟩
theorem ok_l_all_rows (D : Df K mg "_law_all_rows" s_l_all_rows) (B : Bi mg) : Call1 P w K mg base CX0 lv_l_all_rows "_law_all_rows" (sp_l_all_rows K) := by
  refine fun_ok (k := 0) (N := ["_law_p_so", "_law_many_so", "_law_found", "_law_lap", "_law_longer_so", "_law_own", "_law_digit_so"]) (ps := ["_law_p_so", "_law_many_so"]) D sc_l_all_rows (fun ds0 P0 hd => by obtain ⟨p, m, rfl, hp, h1, rfl⟩ := hd; rfl) (fun _ _ _ _ _ _ us hl => match us, hl with | [_, _], _ => rfl) fun f cdv A outer s H E hr => ⟨_, 
    (pss_cons (ps_set (i := 2) sc_l_all_rows.nd rfl (by first | exact Or.inl rfl | exact Or.inr rfl) (pe_lst (pa_cons (pe_tup pa_nil) pa_nil)) (hf := (by first | exact Or.inl rfl | exact Or.inr rfl)))
      (pss_cons (ps_for (g := (gName 3)) PassesOwn.never rfl (pi_range1 (by rfl) B.range (pa_cons (pv 1) pa_nil)) (pgN (i := 3) sc_l_all_rows.nd rfl (by first | exact Or.inl rfl | exact Or.inr rfl) (by first | exact Or.inl rfl | exact Or.inr rfl)) (pss_cons (ps_set (i := 4) sc_l_all_rows.nd rfl (by first | exact Or.inl rfl | exact Or.inr rfl) (pe_lst pa_nil) (hf := (by first | exact Or.inl rfl | exact Or.inr rfl)))
      (pss_cons (ps_for (g := (gName 5)) PassesOwn.never rfl (piList (K := K) (pv 2)) (pgN (i := 5) sc_l_all_rows.nd rfl (by first | exact Or.inl rfl | exact Or.inr rfl) (by first | exact Or.inl rfl | exact Or.inr rfl)) (pss_one (ps_set (i := 4) sc_l_all_rows.nd rfl (by first | exact Or.inl rfl | exact Or.inr rfl) (pe_op op_cat (pv 4) (pe_lc (own := [("_law_digit_so", 6)]) (g := (gName 6)) (tt := tYes) rfl sc_l_all_rows.nd (pi_range1 (by rfl) B.range (pa_cons (pv 0) pa_nil)) (blkOk_by (N := ["_law_p_so", "_law_many_so", "_law_found", "_law_lap", "_law_longer_so", "_law_own", "_law_digit_so"]) (sc := defScope s_l_all_rows) (by decide +kernel)) (fun _ _ _ _ _ => (pgN (i := 6) sc_l_all_rows.nd rfl (by first | exact Or.inl rfl | exact Or.inr rfl) (by first | exact Or.inl rfl | exact Or.inr rfl))) (fun _ _ _ _ _ => pts_nil) (fun _ _ _ _ _ => (pe_op (opCatT (K := K)) (pv 5) (pe_tup (pa_cons (pv 6) pa_nil)))))) (hf := (by first | exact Or.inl rfl | exact Or.inr rfl)))))
      (pss_one (ps_set (i := 2) sc_l_all_rows.nd rfl (by first | exact Or.inl rfl | exact Or.inr rfl) (pv 4) (hf := (by first | exact Or.inl rfl | exact Or.inr rfl)))))))
      (pss_one (ps_ret (pv 2))))), fun ds0 P0 hd => ?_⟩
  obtain ⟨p, m, rfl, hp, h1, rfl⟩ := hd
  refine sj_seq (sj_asgD (xd_lst (xad_cons (xd_tup xad_nil (by simp)) xad_nil) (by simp)) ?_)
  refine sj_seq (sj_forT (xs := List.range m) (A := fun i : Nat => PyData.int (i : Int)) (xid_rangeN (xad_cons (xd_var rfl) xad_nil) (by omega)) (fun i δ _ => ∃ s3 s4 s5 s6, δ = [.val (.int p), .val (.int m), .val (.list ((allRows p i).map rowD)), s3, s4, s5, s6]) ⟨.un, .un, .un, .un, rfl⟩ (fun i x δ' n' hx iv => ?_) (fun δ' n' iv => ?_))
  · obtain ⟨s3, s4, s5, s6, rfl⟩ := iv
    have hi : i < m := by
      have := (List.getElem?_eq_some_iff.mp hx).1
      simpa using this
    have hL := allRows_len (p := p) (m := i)
    have hB := pow_bound (m := i) hp (by omega)
    refine ⟨_, [3], xg_name, sj_seq (sj_asgD (xd_lst xad_nil (by simp)) ?_)⟩
    refine sj_seq (sj_forT (xs := allRows p i) (A := rowD) (xid_list (xd_var rfl)) (fun j δ _ => ∃ s3 s5 s6, δ = [.val (.int p), .val (.int m), .val (.list ((allRows p i).map rowD)), s3, .val (.list ((((allRows p i).take j).flatMap (extR p)).map rowD)), s5, s6]) ⟨_, _, _, rfl⟩ (fun j x δ' n'' hx iv => ?_) (fun δ' n'' iv => ?_))
    · obtain ⟨s3, s5, s6, rfl⟩ := iv
      have hj := (List.getElem?_eq_some_iff.mp hx).1
      have hxl := (allRows_mem.mp (List.mem_of_getElem? hx)).1
      have hfl : (((allRows p i).take j).flatMap (extR p)).length ≤ 3 * (allRows p i).length := by
        rw [List.length_flatMap]
        have : (((allRows p i).take j).map fun a => (extR p a).length) = List.replicate j p := by
          rw [List.eq_replicate_iff]
          refine ⟨by simp; omega, fun b hb => ?_⟩
          obtain ⟨x, _, rfl⟩ := List.mem_map.mp hb
          simp [extR]
        rw [this, List.sum_replicate_nat]
        have h1 : j * p ≤ (allRows p i).length * 3 := Nat.mul_le_mul (by omega) (by omega)
        omega
      refine ⟨_, [5], xg_name, sj_asgD (d := .list ((((allRows p i).take (j + 1)).flatMap (extR p)).map rowD)) (XD.is (xd_opN (xd_var rfl) (xd_lcMap (xs := List.range p) (A := fun i : Nat => PyData.int (i : Int)) (js := [6]) (xid_rangeN (xad_cons (xd_var rfl) xad_nil) ?_) (by simp) ?_ (fun x hx => xg_name) (fun x hx => (xd_op (xd_var rfl) (xd_tup1 PyData.int (xd_var rfl)) (rd_catE ?_)))) (rn_cat ?_)) ?_) ⟨_, _, _, rfl⟩⟩
      · omega
      · simp; omega
      · simp; omega
      · simp only [List.length_map, List.length_range]
        omega
      · rw [List.take_succ, hx, List.flatMap_append, List.map_append]
        congr 2
        simp only [Option.toList, List.flatMap_cons, List.flatMap_nil, List.append_nil, extR, List.map_map]
        rfl
    · obtain ⟨s3, s5, s6, rfl⟩ := iv
      rw [List.take_length]
      exact sj_asgD (xd_var rfl) ⟨_, _, _, _, rfl⟩
  · obtain ⟨s3, s4, s5, s6, rfl⟩ := iv
    refine sj_retD (xd_var rfl) ?_
    rw [List.length_range]
end
end Dry

set_option Elab.async false
set_option linter.all false
set_option maxRecDepth 100000
set_option maxHeartbeats 4000000
namespace Dry
open PySem PySem.Spec PyProof.Rows L2 RZ
section
variable {P : Program} {w : World} {K : PySem.W.Frag} {mg : Str → Option Value} {base : Heap}
def readZ (p m : Nat) (zs : List (Int × List Int)) : List Int := zs.foldl (fun acc x => rowPlus p acc (rowTimes p x.1 x.2)) (List.replicate m 0)
def readK (p : Nat) (k : Ky) (rests : List Int) : List Int := readZ p k.m (rests.zip k.cols)
theorem readZ_succ {p m i : Nat} {zs : List (Int × List Int)} {x : Int × List Int} (h : zs[i]? = some x) : readZ p m (zs.take (i + 1)) = rowPlus p (readZ p m (zs.take i)) (rowTimes p x.1 x.2) := by
  unfold readZ
  rw [List.take_succ, h, List.foldl_append]
  rfl
theorem len_plus {p : Nat} {a b : List Int} (h : a.length = b.length) : (rowPlus p a b).length = a.length := by simp [rowPlus, h]
theorem dig_plus {p : Nat} (hp : 0 < p) (a b : List Int) : Dig p (rowPlus p a b) := fun x hx => by
  obtain ⟨y, _, rfl⟩ := List.mem_map.mp hx
  exact dig_mod hp _
theorem readZ_len {p m : Nat} {zs : List (Int × List Int)} (h : ∀ x ∈ zs, x.2.length = m) : ∀ i, (readZ p m (zs.take i)).length = m
  | 0 => by simp [readZ]
  | i + 1 => by
    cases e : zs[i]? with
    | none =>
      have : zs.length ≤ i := List.getElem?_eq_none_iff.mp e
      rw [List.take_of_length_le (by omega), ← List.take_of_length_le (i := i) this]
      exact readZ_len h i
    | some x =>
      rw [readZ_succ e, len_plus, readZ_len h i]
      rw [readZ_len h i, len_times, h x (List.mem_of_getElem? e)]
theorem zip_cols {p n : Nat} {k : Ky} (h : KOk p n k) (rests : List Int) : ∀ x ∈ rests.zip k.cols, x.2.length = k.m := fun x hx => (h.col _ (List.of_mem_zip hx).2).1
theorem sc_l_read : FnScope ["_law_key_so", "_law_rests_so", "_law_found", "_law_rest_so", "_law_column_so"] ["_law_key_so", "_law_rests_so"] (defScope s_l_read) := ⟨rfl, rfl, rfl, by decide +kernel, rfl, by decide +kernel, by decide +kernel⟩
abbrev lv_l_read : Nat := 2
def dom_l_read : List PyData → (PyData → Prop) → Prop := fun ds0 P0 => ∃ (p n : Nat) (k : Ky) (rests : List Int), ds0 = [keyD k, rowD rests] ∧ (p = 2 ∨ p = 3) ∧ (KOk p n k) ∧ (Dig p rests) ∧ (rests.length ≤ 1000) ∧ P0 = (fun z => z = rowD (readK p k rests))
abbrev sp_l_read (K : PySem.W.Frag) : Sp := SpD K dom_l_read
theorem xc_l_read {K : PySem.W.Frag} {tr : TA} {δ : List Sl} {p n : Nat} {k : Ky} {rests : List Int} (h0 : XAD K tr δ [keyD k, rowD rests]) (hp : p = 2 ∨ p = 3) (h1 : KOk p n k) (h2 : Dig p rests) (h3 : rests.length ≤ 1000) : XD K (tCall (sp_l_read K) [] E0 tr) δ (rowD (readK p k rests)) := xd_callD h0 ⟨_, _, _, _, rfl, hp, h1, h2, h3, rfl⟩
theorem ok_l_read (D : Df K mg "_law_read" s_l_read) (B : Bi mg) (C_l_row_plus : Call1 P w K mg base CX0 lv_l_row_plus "_law_row_plus" (sp_l_row_plus K)) (C_l_row_times : Call1 P w K mg base CX0 lv_l_row_times "_law_row_times" (sp_l_row_times K)) : Call1 P w K mg base CX0 lv_l_read "_law_read" (sp_l_read K) := by
  refine fun_ok (k := 1) (N := ["_law_key_so", "_law_rests_so", "_law_found", "_law_rest_so", "_law_column_so"]) (ps := ["_law_key_so", "_law_rests_so"]) D sc_l_read (fun ds0 P0 hd => by obtain ⟨p, n, k, rests, rfl, hp, h1, h2, h3, rfl⟩ := hd; rfl) (fun _ _ _ _ _ _ us hl => match us, hl with | [_, _], _ => rfl) fun f cdv A outer s H E hr => ⟨_, 
    (pss_cons (ps_set (i := 2) sc_l_read.nd rfl (by first | exact Or.inl rfl | exact Or.inr rfl) (pe_op (opRepT (K := K)) (pe_tup (pa_cons pe_int pa_nil)) (pe_ix (ixT (K := K)) (pv 0) pe_int (fun _ _ => rfl))) (hf := (by first | exact Or.inl rfl | exact Or.inr rfl)))
      (pss_cons (ps_for (g := (gTup K 2 (gCons (gName 3) (gCons (gName 4) gNil)))) PassesOwn.never rfl (piZip (K := K) (by rfl) B.zip (pa_cons (pv 1) (pa_cons (pe_ix (ixT (K := K)) (pv 0) pe_int (fun _ _ => rfl)) pa_nil))) (pgTup (K := K) rfl (pgs_cons (pgN (i := 3) sc_l_read.nd rfl (by first | exact Or.inl rfl | exact Or.inr rfl) (by first | exact Or.inl rfl | exact Or.inr rfl)) (pgs_cons (pgN (i := 4) sc_l_read.nd rfl (by first | exact Or.inl rfl | exact Or.inr rfl) (by first | exact Or.inl rfl | exact Or.inr rfl)) pgs_nil))) (pss_one (ps_set (i := 2) sc_l_read.nd rfl (by first | exact Or.inl rfl | exact Or.inr rfl) (pe_callC C_l_row_plus (hr.mono (by decide)) (by rfl) (pa_cons (pv 2) (pa_cons (pe_callC C_l_row_times (hr.mono (by decide)) (by rfl) (pa_cons (pv 3) (pa_cons (pv 4) (pa_cons (pe_ix (ixT (K := K)) (pv 0) pe_int (fun _ _ => rfl)) pa_nil)))) (pa_cons (pe_ix (ixT (K := K)) (pv 0) pe_int (fun _ _ => rfl)) pa_nil)))) (hf := (by first | exact Or.inl rfl | exact Or.inr rfl)))))
      (pss_one (ps_ret (pv 2))))), fun ds0 P0 hd => ?_⟩
  obtain ⟨p, n, k, rests, rfl, hp, h1, h2, h3, rfl⟩ := hd
  have a2 := h1.mm
  have a3 := h1.pp
  have hz := zip_cols h1 rests
  refine sj_seq (sj_asgD (xd_op (xd_tup1 PyData.int xd_int) (xd_op (xd_var rfl) xd_int (rd_ixT rfl)) (rd_repE ?_)) ?_)
  · omega
  refine sj_seq (sj_forT (xs := rests.zip k.cols) (A := fun x => .tuple [.int x.1, rowD x.2]) ((xid_zipT (xad_cons (xd_var rfl) (xad_cons (xd_op (xd_var rfl) xd_int (rd_ixT rfl)) xad_nil))).is zipD_map) (fun i δ _ => ∃ s3 s4, δ = [.val (keyD k), .val (rowD rests), .val (rowD (readZ p k.m ((rests.zip k.cols).take i))), s3, s4]) ⟨.un, .un, rfl⟩ (fun i x δ' m hx iv => ?_) (fun δ' m iv => ?_))
  · obtain ⟨s3, s4, rfl⟩ := iv
    have hm := List.mem_of_getElem? hx
    have hl := readZ_len (p := p) hz i
    have hxl := hz x hm
    refine ⟨_, [3, 4], xg_tup2, sj_asgD (xc_l_row_plus (p := p) (xad_cons (xd_var rfl) (xad_cons (xc_l_row_times (p := p) (xad_cons (xd_var rfl) (xad_cons (xd_var rfl) (xad_cons ((xd_op (xd_var rfl) xd_int (rd_ixT rfl)).is (by rw [a3])) xad_nil))) hp (h2 _ (List.of_mem_zip hm).1) (by omega)) (xad_cons ((xd_op (xd_var rfl) xd_int (rd_ixT rfl)).is (by rw [a3])) xad_nil))) hp (by omega)) ?_⟩
    rw [readZ_succ hx]
    exact ⟨_, _, rfl⟩
  · obtain ⟨s3, s4, rfl⟩ := iv
    rw [List.take_length]
    exact sj_retD (xd_var rfl) rfl
theorem sc_l_reading : FnScope ["_law_picture_so", "_law_key_so"] ["_law_picture_so", "_law_key_so"] (defScope s_l_reading) := ⟨rfl, rfl, rfl, by decide +kernel, rfl, by decide +kernel, by decide +kernel⟩
abbrev lv_l_reading : Nat := 3
def dom_l_reading : List PyData → (PyData → Prop) → Prop := fun ds0 P0 => ∃ (p n top : Nat) (k : Ky) (rs : List (List Int)), ds0 = [picD top rs, keyD k] ∧ (p = 2 ∨ p = 3) ∧ (KOk p n k) ∧ (PicOk top n rs) ∧ P0 = (fun z => z = rowD (readK p k (restsOf p rs)))
abbrev sp_l_reading (K : PySem.W.Frag) : Sp := SpD K dom_l_reading
theorem xc_l_reading {K : PySem.W.Frag} {tr : TA} {δ : List Sl} {p n top : Nat} {k : Ky} {rs : List (List Int)} (h0 : XAD K tr δ [picD top rs, keyD k]) (hp : p = 2 ∨ p = 3) (h1 : KOk p n k) (h2 : PicOk top n rs) : XD K (tCall (sp_l_reading K) [] E0 tr) δ (rowD (readK p k (restsOf p rs))) := xd_callD h0 ⟨_, _, _, _, _, rfl, hp, h1, h2, rfl⟩
theorem ok_l_reading (D : Df K mg "_law_reading" s_l_reading) (B : Bi mg) (C_l_read : Call1 P w K mg base CX0 lv_l_read "_law_read" (sp_l_read K)) (C_l_rests : Call1 P w K mg base CX0 lv_l_rests "_law_rests" (sp_l_rests K)) : Call1 P w K mg base CX0 lv_l_reading "_law_reading" (sp_l_reading K) := by
  refine fun_ok (k := 2) (N := ["_law_picture_so", "_law_key_so"]) (ps := ["_law_picture_so", "_law_key_so"]) D sc_l_reading (fun ds0 P0 hd => by obtain ⟨p, n, top, k, rs, rfl, hp, h1, h2, rfl⟩ := hd; rfl) (fun _ _ _ _ _ _ us hl => match us, hl with | [_, _], _ => rfl) fun f cdv A outer s H E hr => ⟨_, 
    (pss_one (ps_ret (pe_callC C_l_read (hr.mono (by decide)) (by rfl) (pa_cons (pv 1) (pa_cons (pe_callC C_l_rests (hr.mono (by decide)) (by rfl) (pa_cons (pv 0) (pa_cons (pe_ix (ixT (K := K)) (pv 1) pe_int (fun _ _ => rfl)) pa_nil))) pa_nil))))), fun ds0 P0 hd => ?_⟩
  obtain ⟨p, n, top, k, rs, rfl, hp, h1, h2, rfl⟩ := hd
  have a3 := h1.pp
  have b1 := h2.len
  have b2 := h2.flat
  have b3 := h2.n1
  refine sj_retD (xc_l_read (p := p) (n := n) (xad_cons (xd_var rfl) (xad_cons (xc_l_rests (p := p) (xad_cons (xd_var rfl) (xad_cons ((xd_op (xd_var rfl) xd_int (rd_ixT rfl)).is (by rw [a3])) xad_nil)) b1 (by omega) hp) xad_nil)) hp h1 ?_ ?_) rfl
  · intro x hx
    obtain ⟨g, _, rfl⟩ := List.mem_map.mp hx
    exact dig_mod (by omega) _
  · simp only [restsOf, List.length_map]
    omega
theorem sc_l_grey_for : FnScope ["_law_top_so", "_law_grey_so", "_law_p_so", "_law_rest_so", "_law_own"] ["_law_top_so", "_law_grey_so", "_law_p_so", "_law_rest_so"] (defScope s_l_grey_for) := ⟨rfl, rfl, rfl, by decide +kernel, rfl, by decide +kernel, by decide +kernel⟩
abbrev lv_l_grey_for : Nat := 1
def dom_l_grey_for : List PyData → (PyData → Prop) → Prop := fun ds0 P0 => ∃ (p top : Nat) (grey rest : Int), ds0 = [.int top, .int grey, .int p, .int rest] ∧ (p = 2 ∨ p = 3) ∧ (3 ≤ top ∧ top ≤ 100) ∧ (0 ≤ rest ∧ rest < (p : Int)) ∧ P0 = (fun z => ∃ i : Int, z = .int i ∧ 0 ≤ i ∧ i ≤ (top : Int))
abbrev sp_l_grey_for (K : PySem.W.Frag) : Sp := SpD K dom_l_grey_for
theorem xc_l_grey_for {K : PySem.W.Frag} {tr : TA} {δ : List Sl} {nn : Nat} {p top : Nat} {grey rest : Int} (h0 : XAD K tr δ [.int top, .int grey, .int p, .int rest]) (hp : p = 2 ∨ p = 3) (h1 : 3 ≤ top ∧ top ≤ 100) (h2 : 0 ≤ rest ∧ rest < (p : Int)) : XB K (tCall (sp_l_grey_for K) [] E0 tr) δ nn nn (fun z => ∃ i : Int, z = .int i ∧ 0 ≤ i ∧ i ≤ (top : Int)) := xb_callD (h0 nn) fun es e => by rw [e]; exact ⟨_, _, _, _, rfl, hp, h1, h2, rfl⟩
theorem ok_l_grey_for (D : Df K mg "_law_grey_for" s_l_grey_for) (B : Bi mg) : Call1 P w K mg base CX0 lv_l_grey_for "_law_grey_for" (sp_l_grey_for K) := by
  refine fun_ok (k := 0) (N := ["_law_top_so", "_law_grey_so", "_law_p_so", "_law_rest_so", "_law_own"]) (ps := ["_law_top_so", "_law_grey_so", "_law_p_so", "_law_rest_so"]) D sc_l_grey_for (fun ds0 P0 hd => by obtain ⟨p, top, grey, rest, rfl, hp, h1, h2, rfl⟩ := hd; rfl) (fun _ _ _ _ _ _ us hl => match us, hl with | [_, _, _, _], _ => rfl) fun f cdv A outer s H E hr => ⟨_, 
    (pss_one (ps_ret (pe_ix (ixT (K := K)) (pe_callB (cMinP (K := K) hr.units rfl) (by rfl) B.min (by decide +kernel) (pa_cons (pe_lc (own := [("_law_own", 4)]) (g := (gName 4)) rfl sc_l_grey_for.nd (pi_range1 (by rfl) B.range (pa_cons (pe_op op_add (pv 0) pe_int) pa_nil)) (blkOk_by (N := ["_law_top_so", "_law_grey_so", "_law_p_so", "_law_rest_so", "_law_own"]) (sc := defScope s_l_grey_for) (by decide +kernel)) (fun _ _ _ _ _ => (pgN (i := 4) sc_l_grey_for.nd rfl (by first | exact Or.inl rfl | exact Or.inr rfl) (by first | exact Or.inl rfl | exact Or.inr rfl))) (fun _ _ _ _ _ => (pts_one (pt_cmpR op_eq (pe_op op_mod (pv 4) (pv 2)) (pv 3) (nomark _)))) (fun _ _ _ _ _ => (pe_tup (pa_cons (pe_callB call_abs (by rfl) B.abs (by decide +kernel) (pa_cons (pe_op op_sub (pv 4) (pv 1)) pa_nil)) (pa_cons (pv 4) pa_nil))))) pa_nil)) pe_int (fun _ _ => rfl)))), fun ds0 P0 hd => ?_⟩
  obtain ⟨p, top, grey, rest, rfl, hp, h1, h2, rfl⟩ := hd
  have e1 : ((top : Nat) : Int) + 1 = ((top + 1 : Nat) : Int) := by omega
  have hne : ((List.range (top + 1)).filter fun x => decide (((x : Nat) : Int) % (p : Int) = rest)).map (fun x => ((if ((x : Nat) : Int) - grey < 0 then -(((x : Nat) : Int) - grey) else ((x : Nat) : Int) - grey), ((x : Nat) : Int))) ≠ [] := by
    intro e
    rw [List.map_eq_nil_iff, List.filter_eq_nil_iff] at e
    refine e rest.toNat (by simp; omega) ?_
    simp only [decide_eq_true_eq]
    rw [show ((rest.toNat : Nat) : Int) = rest by omega]
    exact Int.emod_eq_of_lt h2.1 h2.2
  refine sj_ret (n1 := 0) (P := fun z => ∃ i : Int, z = .int i ∧ 0 ≤ i ∧ i ≤ (top : Int)) (xb_op (n1 := 0) (P := fun z => ∃ b ∈ ((List.range (top + 1)).filter fun x => decide (((x : Nat) : Int) % (p : Int) = rest)).map (fun x => ((if ((x : Nat) : Int) - grey < 0 then -(((x : Nat) : Int) - grey) else ((x : Nat) : Int) - grey), ((x : Nat) : Int))), z = pairD b) (P' := fun z => z = .int 1) (xb_cb ((xad_cons ((xd_lcFil (xs := List.range (top + 1)) (A := fun i : Nat => PyData.int (i : Int)) (js := [4]) (xid_rangeN (xad_cons ((xd_op (xd_var rfl) xd_int rd_I0).is (by rw [e1])) xad_nil) ?_) (by simp) ?_ (fun x hx => xg_name) (fun x hx => (xt_test (xd_op (xd_op (xd_var rfl) (xd_var rfl) (rd_I ?_)) (xd_var rfl) rd_eqI))) (fun x hx hb => (xd_tup (xad_cons (xd_cb (xad_cons (xd_op (xd_var rfl) (xd_var rfl) rd_I0) xad_nil) rc_abs) (xad_cons (xd_var rfl) xad_nil)) (by simp)))).is ?_) xad_nil) _) (fun ds e => by rw [e]; exact rc_minP hne)) (xd_int _) (fun d e hd he => ?_)) (fun d hd => hd)
  · omega
  · simp; omega
  · exact pp hp
  · rw [List.map_map]
    rfl
  · obtain ⟨b, hb, rfl⟩ := hd
    subst he
    obtain ⟨x, hx, rfl⟩ := List.mem_map.mp hb
    intro x' y' bx n' δ σ G H E r1 r2 Q q
    have hx2 := (List.mem_filter.mp hx).1
    simp at hx2
    exact rd_ixT (d := .int ((x : Nat) : Int)) rfl x' y' bx n' δ σ G H E r1 r2 Q fun v f G' H' t r e => q v f G' H' t r ⟨_, e, by omega, by omega⟩
theorem sc_l_is_digits : FnScope ["_law_own", "_law_p_so", "_law_many_so", "_law_bit"] ["_law_own", "_law_p_so", "_law_many_so"] (defScope s_l_is_digits) := ⟨rfl, rfl, rfl, by decide +kernel, rfl, by decide +kernel, by decide +kernel⟩
abbrev lv_l_is_digits : Nat := 2
def dom_l_is_digits : List PyData → (PyData → Prop) → Prop := fun ds0 P0 => ∃ (p m : Nat) (d : PyData), ds0 = [d, .int p, .int m] ∧ (∀ ds, d = .tuple ds → ds.length ≤ 1000) ∧ P0 = (fun z => z = .bool (isMsg ⟨p, m, []⟩ d))
abbrev sp_l_is_digits (K : PySem.W.Frag) : Sp := SpD K dom_l_is_digits
theorem xc_l_is_digits {K : PySem.W.Frag} {tr : TA} {δ : List Sl} {p m : Nat} {d : PyData} (h0 : XAD K tr δ [d, .int p, .int m]) (h1 : ∀ ds, d = .tuple ds → ds.length ≤ 1000) : XD K (tCall (sp_l_is_digits K) [] E0 tr) δ (.bool (isMsg ⟨p, m, []⟩ d)) := xd_callD h0 ⟨_, _, _, rfl, h1, rfl⟩
theorem ok_l_is_digits (D : Df K mg "_law_is_digits" s_l_is_digits) (B : Bi mg) (C_l_is_number : Call1 P w K mg base CX0 lv_l_is_number "_law_is_number" (sp_l_is_number K)) : Call1 P w K mg base CX0 lv_l_is_digits "_law_is_digits" (sp_l_is_digits K) := by
  refine fun_ok (k := 1) (N := ["_law_own", "_law_p_so", "_law_many_so", "_law_bit"]) (ps := ["_law_own", "_law_p_so", "_law_many_so"]) D sc_l_is_digits (fun ds0 P0 hd => by obtain ⟨p, m, d, rfl, h1, rfl⟩ := hd; rfl) (fun _ _ _ _ _ _ us hl => match us, hl with | [_, _, _], _ => rfl) fun f cdv A outer s H E hr => ⟨_, 
    (pss_cons (ps_if (PW.pt (pw_or (pt_not (pt_val (pe_callB (cIsi (K := K)) (by rfl) B.isinstance (by decide +kernel) (pa_cons (pv 0) (pa_cons (pe_bltn (v := .ty "tuple") (by rfl) B.tuple (by decide +kernel) rfl) pa_nil))))) (pw_or1 (pt_cmpR op_ne (pe_callB (cLen (K := K)) (by rfl) B.len PySem.boot_len (pa_cons (pv 0) pa_nil)) (pv 2) (nomark _))))) (pss_one (ps_ret pe_bl)) pss_nil)
      (pss_one (ps_ret (pe_callB (cAll (K := K) rfl) (by rfl) B.all (by decide +kernel) (pa_cons (pe_lc (own := [("_law_bit", 3)]) (g := (gName 3)) (tt := tYes) rfl sc_l_is_digits.nd (piSeq (K := K) (pv 0)) (blkOk_by (N := ["_law_own", "_law_p_so", "_law_many_so", "_law_bit"]) (sc := defScope s_l_is_digits) (by decide +kernel)) (fun _ _ _ _ _ => (pgN (i := 3) sc_l_is_digits.nd rfl (by first | exact Or.inl rfl | exact Or.inr rfl) (by first | exact Or.inl rfl | exact Or.inr rfl))) (fun _ _ _ _ _ => pts_nil) (fun _ _ _ _ _ => (pe_and (pe_callC C_l_is_number (hr.mono (by decide)) (by rfl) (pa_cons (pv 3) pa_nil)) (pe_one (pe_chain op_le op_lt pe_int (pv 3) (pv 1)))))) pa_nil))))), fun ds0 P0 hd => ?_⟩
  obtain ⟨p, m, d, rfl, h1, rfl⟩ := hd
  cases d with
  | tuple ds =>
    have h1 := h1 ds rfl
    refine sj_seq (sj_if (XT.is (xt_or (xt_not (b := true) (xt_val (xd_isi (xd_var rfl) kit_tuple))) fun _ => (xt_test (xd_op (xd_cb (xad_cons (xd_var rfl) xad_nil) rc_lenT) (xd_var rfl) rd_neI))) rfl) (fun hb => sj_retD xd_bl ?_) (fun hb => sj_next ?_))
    · have : ¬ ((ds.length : Int) = m) := by simpa using hb
      simp [isMsg, this]
    · have : ((ds.length : Int) = m) := by simpa using hb
      refine sj_retD (xd_cb (xad_cons (xd_lcMap (xs := ds) (A := fun z => z) (F := fun x => .bool (isBelow x p)) (js := [3]) ((xid_seqT (xd_var rfl)).is (List.map_id' ds).symm) (by simp) ?_ (fun x hx => xg_name) (fun x hx => ?_)) xad_nil) rc_allE) ?_
      · omega
      · cases x with
        | int i => exact (xd_andT ((xc_l_is_number (xad_cons (xd_var rfl) xad_nil)).is rfl) ((xd_chain xd_int (xd_var rfl) (xd_var rfl)).is rfl))
        | none => exact xd_andF ((xc_l_is_number (xad_cons (xd_var rfl) xad_nil)).is rfl)
        | bool i => exact xd_andF ((xc_l_is_number (xad_cons (xd_var rfl) xad_nil)).is rfl)
        | str i => exact xd_andF ((xc_l_is_number (xad_cons (xd_var rfl) xad_nil)).is rfl)
        | list i => exact xd_andF ((xc_l_is_number (xad_cons (xd_var rfl) xad_nil)).is rfl)
        | tuple i => exact xd_andF ((xc_l_is_number (xad_cons (xd_var rfl) xad_nil)).is rfl)
        | dict i => exact xd_andF ((xc_l_is_number (xad_cons (xd_var rfl) xad_nil)).is rfl)
      · simp [isMsg, this]
  | none => exact sj_seq (sj_ifT (XT.is (xt_or (b := true) (c := false) (xt_not (b := false) (xt_val (xd_isi (xd_var rfl) kit_tuple))) fun z => nomatch z) rfl) (sj_retD xd_bl rfl))
  | bool i => exact sj_seq (sj_ifT (XT.is (xt_or (b := true) (c := false) (xt_not (b := false) (xt_val (xd_isi (xd_var rfl) kit_tuple))) fun z => nomatch z) rfl) (sj_retD xd_bl rfl))
  | str i => exact sj_seq (sj_ifT (XT.is (xt_or (b := true) (c := false) (xt_not (b := false) (xt_val (xd_isi (xd_var rfl) kit_tuple))) fun z => nomatch z) rfl) (sj_retD xd_bl rfl))
  | list i => exact sj_seq (sj_ifT (XT.is (xt_or (b := true) (c := false) (xt_not (b := false) (xt_val (xd_isi (xd_var rfl) kit_tuple))) fun z => nomatch z) rfl) (sj_retD xd_bl rfl))
  | int i => exact sj_seq (sj_ifT (XT.is (xt_or (b := true) (c := false) (xt_not (b := false) (xt_val (xd_isi (xd_var rfl) kit_tuple))) fun z => nomatch z) rfl) (sj_retD xd_bl rfl))
  | dict i => exact sj_seq (sj_ifT (XT.is (xt_or (b := true) (c := false) (xt_not (b := false) (xt_val (xd_isi (xd_var rfl) kit_tuple))) fun z => nomatch z) rfl) (sj_retD xd_bl rfl))
theorem sc_l_parted : FnScope ["_law_keys_so", "_law_row_so", "_law_own", "_law_found", "_law_place_so"] ["_law_keys_so", "_law_row_so"] (defScope s_l_parted) := ⟨rfl, rfl, rfl, by decide +kernel, rfl, by decide +kernel, by decide +kernel⟩
abbrev lv_l_parted : Nat := 1
def dom_l_parted : List PyData → (PyData → Prop) → Prop := fun ds0 P0 => ∃ (ks : List Ky) (row : List Int), ds0 = [keysD ks, rowD row] ∧ (ks.length ≤ 100) ∧ P0 = (fun z => z = rowsD (partK ks row))
abbrev sp_l_parted (K : PySem.W.Frag) : Sp := SpD K dom_l_parted
theorem xc_l_parted {K : PySem.W.Frag} {tr : TA} {δ : List Sl} {ks : List Ky} {row : List Int} (h0 : XAD K tr δ [keysD ks, rowD row]) (h1 : ks.length ≤ 100) : XD K (tCall (sp_l_parted K) [] E0 tr) δ (rowsD (partK ks row)) := xd_callD h0 ⟨_, _, rfl, h1, rfl⟩
theorem ok_l_parted (D : Df K mg "_law_parted" s_l_parted) (B : Bi mg) : Call1 P w K mg base CX0 lv_l_parted "_law_parted" (sp_l_parted K) := by
  refine fun_ok (k := 0) (N := ["_law_keys_so", "_law_row_so", "_law_own", "_law_found", "_law_place_so"]) (ps := ["_law_keys_so", "_law_row_so"]) D sc_l_parted (fun ds0 P0 hd => by obtain ⟨ks, row, rfl, h1, rfl⟩ := hd; rfl) (fun _ _ _ _ _ _ us hl => match us, hl with | [_, _], _ => rfl) fun f cdv A outer s H E hr => ⟨_, 
    (pss_cons (ps_par (i := 3) (j := 4) rfl sc_l_parted.nd rfl rfl (by decide) rfl rfl (pa_cons (pe_lst pa_nil) (pa_cons pe_int pa_nil)) (by rfl))
      (pss_cons (ps_for (g := (gName 2)) PassesOwn.never rfl (piTup (K := K) (pv 0)) (pgN (i := 2) sc_l_parted.nd rfl (by first | exact Or.inl rfl | exact Or.inr rfl) (by first | exact Or.inl rfl | exact Or.inr rfl)) (pss_cons (ps_expr (pe_bm PySem.F.plainAttrs_list PySem.F.slot_list_append PySem.F.type_list_append mt_append (pv 3) (pa_cons (pe_slice (slT (K := K)) (pv 1) (po_some (pv 4)) (po_some (pe_op op_add (pv 4) (pe_ix (ixT (K := K)) (pv 2) pe_int (fun _ _ => rfl))))) pa_nil)))
      (pss_one (ps_set (i := 4) sc_l_parted.nd rfl (by first | exact Or.inl rfl | exact Or.inr rfl) (pe_op op_add (pv 4) (pe_ix (ixT (K := K)) (pv 2) pe_int (fun _ _ => rfl))) (hf := (by first | exact Or.inl rfl | exact Or.inr rfl))))))
      (pss_one (ps_ret (pe_callTy (cTuple (K := K)) (by rfl) B.tuple (by decide +kernel) (pa_cons (pv 3) pa_nil)))))), fun ds0 P0 hd => ?_⟩
  obtain ⟨ks, row, rfl, h1, rfl⟩ := hd
  refine sj_seq (sj_par (xs_own (xn_lst xa_nil (fun ds e => by rw [e]; simp))) (xs_val (xd_int _)) fun s s' ⟨ds, e3, e4⟩ ⟨d, e1, e2⟩ => ?_)
  subst e1 e2 e3 e4
  refine sj_seq (sj_forT (xs := ks) (A := keyD) (xid_tup (xd_var rfl)) (fun i δ _ => ∃ s2, δ = [.val (keysD ks), .val (rowD row), s2, .own (((List.range i).map fun i => (row.take (placeAt ks (i + 1))).drop (placeAt ks i)).map rowD), .val (.int (placeAt ks i : Nat))]) ⟨.un, rfl⟩ (fun i x δ' m hx iv => ?_) (fun δ' m iv => ?_))
  · obtain ⟨s2, rfl⟩ := iv
    have hi := (List.getElem?_eq_some_iff.mp hx).1
    refine ⟨_, [2], xg_name, sj_seq (sj_append rfl ((xd_slE (xd_var rfl) (xo_some (xd_var rfl)) (xo_some (xd_op (xd_var rfl) (xd_op (xd_var rfl) xd_int (rd_ixT rfl)) rd_I0))) _) (by simp; omega) fun d e => ?_)⟩
    subst e
    refine sj_asgD (xd_op (xd_var rfl) (xd_op (xd_var rfl) xd_int (rd_ixT rfl)) rd_I0) ?_
    have e1 : ((placeAt ks i : Nat) : Int) + (x.m : Int) = ((placeAt ks (i + 1) : Nat) : Int) := by rw [place_succ hx]; omega
    have hs : ((List.range (i + 1)).map fun i => (row.take (placeAt ks (i + 1))).drop (placeAt ks i)).map rowD = ((List.range i).map fun i => (row.take (placeAt ks (i + 1))).drop (placeAt ks i)).map rowD ++ [rowD ((row.take (placeAt ks (i + 1))).drop (placeAt ks i))] := by
      rw [List.range_succ, List.map_append, List.map_append]
      rfl
    rw [hs, e1, cut_mid]
    exact ⟨_, rfl⟩
  · obtain ⟨s2, rfl⟩ := iv
    exact sj_freeze (i := 3) rfl (sj_retD (xd_cb (xad_cons (xd_var rfl) xad_nil) rc_tupleL) rfl)
theorem sc_l_is_joint : FnScope ["_law_keys_so", "_law_own", "_law_its", "_law_row_so"] ["_law_keys_so", "_law_own"] (defScope s_l_is_joint) := ⟨rfl, rfl, rfl, by decide +kernel, rfl, by decide +kernel, by decide +kernel⟩
abbrev lv_l_is_joint : Nat := 3
def dom_l_is_joint : List PyData → (PyData → Prop) → Prop := fun ds0 P0 => ∃ (ks : List Ky) (d : PyData), ds0 = [keysD ks, d] ∧ (DSm d) ∧ (ks.length ≤ 100) ∧ P0 = (fun z => z = .bool (isJoint ks d))
abbrev sp_l_is_joint (K : PySem.W.Frag) : Sp := SpD K dom_l_is_joint
theorem xc_l_is_joint {K : PySem.W.Frag} {tr : TA} {δ : List Sl} {ks : List Ky} {d : PyData} (h0 : XAD K tr δ [keysD ks, d]) (h1 : DSm d) (h2 : ks.length ≤ 100) : XD K (tCall (sp_l_is_joint K) [] E0 tr) δ (.bool (isJoint ks d)) := xd_callD h0 ⟨_, _, rfl, h1, h2, rfl⟩
theorem ok_l_is_joint (D : Df K mg "_law_is_joint" s_l_is_joint) (B : Bi mg) (C_l_is_digits : Call1 P w K mg base CX0 lv_l_is_digits "_law_is_digits" (sp_l_is_digits K)) : Call1 P w K mg base CX0 lv_l_is_joint "_law_is_joint" (sp_l_is_joint K) := by
  refine fun_ok (k := 2) (N := ["_law_keys_so", "_law_own", "_law_its", "_law_row_so"]) (ps := ["_law_keys_so", "_law_own"]) D sc_l_is_joint (fun ds0 P0 hd => by obtain ⟨ks, d, rfl, h1, h2, rfl⟩ := hd; rfl) (fun _ _ _ _ _ _ us hl => match us, hl with | [_, _], _ => rfl) fun f cdv A outer s H E hr => ⟨_, 
    (pss_cons (ps_if (PW.pt (pw_or (pt_not (pt_val (pe_callB (cIsi (K := K)) (by rfl) B.isinstance (by decide +kernel) (pa_cons (pv 1) (pa_cons (pe_bltn (v := .ty "tuple") (by rfl) B.tuple (by decide +kernel) rfl) pa_nil))))) (pw_or1 (pt_cmpR op_ne (pe_callB (cLen (K := K)) (by rfl) B.len PySem.boot_len (pa_cons (pv 1) pa_nil)) (pe_callB (cLen (K := K)) (by rfl) B.len PySem.boot_len (pa_cons (pv 0) pa_nil)) (nomark _))))) (pss_one (ps_ret pe_bl)) pss_nil)
      (pss_one (ps_ret (pe_callB (cAll (K := K) rfl) (by rfl) B.all (by decide +kernel) (pa_cons (pe_lc (own := [("_law_its", 2), ("_law_row_so", 3)]) (g := (gTup K 2 (gCons (gName 2) (gCons (gName 3) gNil)))) (tt := tYes) rfl sc_l_is_joint.nd (piZip (K := K) (by rfl) B.zip (pa_cons (pv 0) (pa_cons (pv 1) pa_nil))) (blkOk_by (N := ["_law_keys_so", "_law_own", "_law_its", "_law_row_so"]) (sc := defScope s_l_is_joint) (by decide +kernel)) (fun _ _ _ _ _ => (pgTup (K := K) rfl (pgs_cons (pgN (i := 2) sc_l_is_joint.nd rfl (by first | exact Or.inl rfl | exact Or.inr rfl) (by first | exact Or.inl rfl | exact Or.inr rfl)) (pgs_cons (pgN (i := 3) sc_l_is_joint.nd rfl (by first | exact Or.inl rfl | exact Or.inr rfl) (by first | exact Or.inl rfl | exact Or.inr rfl)) pgs_nil)))) (fun _ _ _ _ _ => pts_nil) (fun _ _ _ _ _ => (pe_callC C_l_is_digits (hr.mono (by decide)) (by rfl) (pa_cons (pv 3) (pa_cons (pe_ix (ixT (K := K)) (pv 2) pe_int (fun _ _ => rfl)) (pa_cons (pe_ix (ixT (K := K)) (pv 2) pe_int (fun _ _ => rfl)) pa_nil)))))) pa_nil))))), fun ds0 P0 hd => ?_⟩
  obtain ⟨ks, d, rfl, h1, h2, rfl⟩ := hd
  cases d with
  | tuple ds =>
    obtain ⟨h3, h4⟩ := h1 ds rfl
    refine sj_seq (sj_if (XT.is (xt_or (xt_not (b := true) (xt_val (xd_isi (xd_var rfl) kit_tuple))) fun _ => (xt_test (xd_op (xd_cb (xad_cons (xd_var rfl) xad_nil) rc_lenT) (xd_cb (xad_cons (xd_var rfl) xad_nil) rc_lenE) rd_neI))) rfl) (fun hb => sj_retD xd_bl ?_) (fun hb => sj_next ?_))
    · have : ¬ ((ds.length : Int) = ks.length) := by simpa using hb
      simp [isJoint, this]
    · have : ((ds.length : Int) = ks.length) := by simpa using hb
      refine sj_retD (xd_cb (xad_cons (xd_lcMap (js := [2, 3]) (xs := ks.zip ds) (A := fun p => .tuple [keyD p.1, p.2]) (F := fun x => .bool (isMsg x.1 x.2)) ((xid_zipT (xad_cons (xd_var rfl) (xad_cons (xd_var rfl) xad_nil))).is ?_) (by simp) ?_ (fun x hx => xg_tup2) (fun x hx => (xc_l_is_digits (xad_cons (xd_var rfl) (xad_cons (xd_op (xd_var rfl) xd_int (rd_ixT rfl)) (xad_cons (xd_op (xd_var rfl) xd_int (rd_ixT rfl)) xad_nil))) (h4 x.2 (List.of_mem_zip hx).2)).is ?_)) xad_nil) rc_allE) ?_
      · have := zipD_map (xs := ks) (A := keyD) (ys := ds) (B := fun z => z)
        rw [List.map_id'] at this
        exact this
      · simp; omega
      · cases x.2 <;> rfl
      · simp [isJoint, this]
  | none => exact sj_seq (sj_ifT (XT.is (xt_or (b := true) (c := false) (xt_not (b := false) (xt_val (xd_isi (xd_var rfl) kit_tuple))) fun z => nomatch z) rfl) (sj_retD xd_bl rfl))
  | bool i => exact sj_seq (sj_ifT (XT.is (xt_or (b := true) (c := false) (xt_not (b := false) (xt_val (xd_isi (xd_var rfl) kit_tuple))) fun z => nomatch z) rfl) (sj_retD xd_bl rfl))
  | str i => exact sj_seq (sj_ifT (XT.is (xt_or (b := true) (c := false) (xt_not (b := false) (xt_val (xd_isi (xd_var rfl) kit_tuple))) fun z => nomatch z) rfl) (sj_retD xd_bl rfl))
  | list i => exact sj_seq (sj_ifT (XT.is (xt_or (b := true) (c := false) (xt_not (b := false) (xt_val (xd_isi (xd_var rfl) kit_tuple))) fun z => nomatch z) rfl) (sj_retD xd_bl rfl))
  | int i => exact sj_seq (sj_ifT (XT.is (xt_or (b := true) (c := false) (xt_not (b := false) (xt_val (xd_isi (xd_var rfl) kit_tuple))) fun z => nomatch z) rfl) (sj_retD xd_bl rfl))
  | dict i => exact sj_seq (sj_ifT (XT.is (xt_or (b := true) (c := false) (xt_not (b := false) (xt_val (xd_isi (xd_var rfl) kit_tuple))) fun z => nomatch z) rfl) (sj_retD xd_bl rfl))
end
end Dry

set_option Elab.async false
set_option linter.all false
set_option maxRecDepth 100000
set_option maxHeartbeats 4000000
namespace Dry
open PySem PySem.Spec PyProof.Rows L2 RZ
section
variable {P : Program} {w : World} {K : PySem.W.Frag} {mg : Str → Option Value} {base : Heap}
def colAt (ks : List Ky) (i : Nat) : List Int := (ks.map fun k => k.cols.getD i []).flatten
theorem getD_map_lt {α β : Type} {l : List α} {f : α → β} {i : Nat} (h : i < l.length) (a : α) (b : β) : (l.map f).getD i b = f (l.getD i a) := by
  rw [List.getD_eq_getElem?_getD, List.getD_eq_getElem?_getD, List.getElem?_map, List.getElem?_eq_getElem h]
  rfl
theorem stack_cols {k l : Ky} {n i : Nat} (h1 : k.cols.length = n) (h2 : l.cols.length = n) (hi : i < n) : (stack k l).cols.length = n ∧ (stack k l).cols.getD i [] = k.cols.getD i [] ++ l.cols.getD i [] := by
  refine ⟨by simp [stack, h1, h2], ?_⟩
  unfold stack
  simp only
  rw [getD_map_lt (a := ([], [])) (by simp [h1, h2, hi])]
  rw [List.getD_eq_getElem?_getD, List.getD_eq_getElem?_getD, List.getD_eq_getElem?_getD, List.getElem?_eq_getElem (by simp [h1, h2, hi]), List.getElem?_eq_getElem (by omega), List.getElem?_eq_getElem (by omega)]
  simp
theorem fold_cols {n : Nat} : ∀ {l : List Ky} {k : Ky} {i : Nat}, k.cols.length = n → (∀ x ∈ l, x.cols.length = n) → i < n → (l.foldl stack k).cols.length = n ∧ (l.foldl stack k).cols.getD i [] = k.cols.getD i [] ++ colAt l i
  | [], k, i, h, _, _ => ⟨h, by simp [colAt]⟩
  | x :: l, k, i, h, h2, hi => by
    obtain ⟨a, b⟩ := stack_cols h (h2 x (by simp)) hi
    obtain ⟨c, d⟩ := fold_cols (l := l) (k := stack k x) a (fun y hy => h2 y (by simp [hy])) hi
    refine ⟨c, ?_⟩
    rw [List.foldl_cons, d, b]
    simp [colAt]
theorem inOne_cols {p n : Nat} {ks : List Ky} (h : KsOk p n ks) : (inOne ks).cols = (List.range n).map (colAt ks) := by
  obtain ⟨k, ks', rfl⟩ : ∃ k ks', ks = k :: ks' := by
    cases ks with
    | nil => exact absurd rfl h.ne
    | cons k ks => exact ⟨k, ks, rfl⟩
  have hl := (inOne_all h).nn
  apply List.ext_getElem?
  intro i
  by_cases hi : i < n
  · have e := (fold_cols (l := ks') (k := k) (i := i) (n := n) (h.all k (by simp)).1.nn (fun x hx => (h.all x (by simp [hx])).1.nn) hi).2
    have e' : (inOne (k :: ks')).cols.getD i [] = colAt (k :: ks') i := e.trans (by simp [colAt])
    rw [getD_some (by omega) [], e', List.getElem?_map, List.getElem?_range hi]
    rfl
  · rw [List.getElem?_eq_none (by omega), List.getElem?_eq_none (by simp; omega)]
def dot (a b : List Int) : Int := ((a.zip b).map fun x => x.1 * x.2).sum
theorem dot_append {a b c d : List Int} (h : a.length = b.length) : dot (a ++ c) (b ++ d) = dot a b + dot c d := by
  unfold dot
  rw [List.zip_append h, List.map_append, List.sum_append]
theorem joint_dot {p n i : Nat} {ks : List Ky} {rs : List (List Int)} (hk : ∀ k ∈ ks, KOk p n k) (hi : i < n) (hj : JRows p ks rs) : ((ks.zip rs).map fun x => rowProd p x.2 (x.1.cols.getD i [])).sum % (p : Int) = rowProd p rs.flatten (colAt ks i) := by
  induction hj with
  | nil => simp [rowProd, colAt]
  | cons h1 h2 h ih =>
    rename_i k r ks rs
    have ih := ih (fun k hk' => hk k (by simp [hk']))
    have hkk := hk k (by simp)
    have hc : (k.cols.getD i []).length = k.m := by
      have := getD_some (rs := k.cols) (i := i) (by rw [hkk.nn]; exact hi) []
      exact (hkk.col _ (List.mem_of_getElem? this)).1
    have e : rowProd p (r :: rs).flatten (colAt (k :: ks) i) = (dot r (k.cols.getD i []) + dot rs.flatten (colAt ks i)) % (p : Int) := by
      show dot (r ++ rs.flatten) (k.cols.getD i [] ++ colAt ks i) % (p : Int) = _
      rw [dot_append (by rw [h1, hc])]
    have ih' : ((ks.zip rs).map fun x => rowProd p x.2 (x.1.cols.getD i [])).sum % (p : Int) = dot rs.flatten (colAt ks i) % (p : Int) := ih
    rw [e, List.zip_cons_cons, List.map_cons, List.sum_cons]
    show (dot r (k.cols.getD i []) % (p : Int) + _) % (p : Int) = _
    rw [Int.emod_add_emod, ← Int.add_emod_emod, ih', Int.add_emod_emod]
theorem sc_l_stacked : FnScope ["_law_keys_so", "_law_columns_so", "_law_k", "_law_own"] ["_law_keys_so"] (defScope s_l_stacked) := ⟨rfl, rfl, rfl, by decide +kernel, rfl, by decide +kernel, by decide +kernel⟩
theorem flat_len2 {rs : List (List Int)} (h1 : ∀ r ∈ rs, r.length ≤ 300) (h2 : rs.length ≤ 100) : rs.flatten.length ≤ 30000 := by
  have := flat_len h1
  omega
abbrev lv_l_stacked : Nat := 1
def dom_l_stacked : List PyData → (PyData → Prop) → Prop := fun ds0 P0 => ∃ (p n : Nat) (ks : List Ky), ds0 = [keysD ks] ∧ (KsOk p n ks) ∧ P0 = (fun z => z = keyD (inOne ks))
abbrev sp_l_stacked (K : PySem.W.Frag) : Sp := SpD K dom_l_stacked
theorem xc_l_stacked {K : PySem.W.Frag} {tr : TA} {δ : List Sl} {p n : Nat} {ks : List Ky} (h0 : XAD K tr δ [keysD ks]) (h1 : KsOk p n ks) : XD K (tCall (sp_l_stacked K) [] E0 tr) δ (keyD (inOne ks)) := xd_callD h0 ⟨_, _, _, rfl, h1, rfl⟩
theorem ok_l_stacked (D : Df K mg "_law_stacked" s_l_stacked) (B : Bi mg) : Call1 P w K mg base CX0 lv_l_stacked "_law_stacked" (sp_l_stacked K) := by
  refine fun_ok (k := 0) (N := ["_law_keys_so", "_law_columns_so", "_law_k", "_law_own"]) (ps := ["_law_keys_so"]) D sc_l_stacked (fun ds0 P0 hd => by obtain ⟨p, n, ks, rfl, h1, rfl⟩ := hd; rfl) (fun _ _ _ _ _ _ us hl => match us, hl with | [_], _ => rfl) fun f cdv A outer s H E hr => ⟨_, 
    (pss_cons (ps_set (i := 1) sc_l_stacked.nd rfl (by first | exact Or.inl rfl | exact Or.inr rfl) (pe_lst pa_nil) (hf := (by first | exact Or.inl rfl | exact Or.inr rfl)))
      (pss_cons (ps_for (g := (gName 2)) PassesOwn.never rfl (pi_range1 (by rfl) B.range (pa_cons (pe_callB (cLen (K := K)) (by rfl) B.len PySem.boot_len (pa_cons (pe_ix (ixT (K := K)) (pe_ix (ixT (K := K)) (pv 0) pe_int (fun _ _ => rfl)) pe_int (fun _ _ => rfl)) pa_nil)) pa_nil)) (pgN (i := 2) sc_l_stacked.nd rfl (by first | exact Or.inl rfl | exact Or.inr rfl) (by first | exact Or.inl rfl | exact Or.inr rfl)) (pss_one (ps_expr (pe_bm PySem.F.plainAttrs_list PySem.F.slot_list_append PySem.F.type_list_append mt_append (pv 1) (pa_cons (pe_callB (cSum2 (K := K) rfl) (by rfl) B.sum (by decide +kernel) (pa_cons (pe_lc (own := [("_law_own", 3)]) (g := (gName 3)) (tt := tYes) rfl sc_l_stacked.nd (piTup (K := K) (pv 0)) (blkOk_by (N := ["_law_keys_so", "_law_columns_so", "_law_k", "_law_own"]) (sc := defScope s_l_stacked) (by decide +kernel)) (fun _ _ _ _ _ => (pgN (i := 3) sc_l_stacked.nd rfl (by first | exact Or.inl rfl | exact Or.inr rfl) (by first | exact Or.inl rfl | exact Or.inr rfl))) (fun _ _ _ _ _ => pts_nil) (fun _ _ _ _ _ => (pe_ix (ixT (K := K)) (pe_ix (ixT (K := K)) (pv 3) pe_int (fun _ _ => rfl)) (pv 2) (fun _ _ => rfl)))) (pa_cons (pe_tup pa_nil) pa_nil))) pa_nil)))))
      (pss_one (ps_ret (pe_tup (pa_cons (pe_ix (ixT (K := K)) (pe_ix (ixT (K := K)) (pv 0) pe_int (fun _ _ => rfl)) pe_int (fun _ _ => rfl)) (pa_cons (pe_callB (cSum (K := K) rfl) (by rfl) B.sum (by decide +kernel) (pa_cons (pe_lc (own := [("_law_own", 3)]) (g := (gName 3)) (tt := tYes) rfl sc_l_stacked.nd (piTup (K := K) (pv 0)) (blkOk_by (N := ["_law_keys_so", "_law_columns_so", "_law_k", "_law_own"]) (sc := defScope s_l_stacked) (by decide +kernel)) (fun _ _ _ _ _ => (pgN (i := 3) sc_l_stacked.nd rfl (by first | exact Or.inl rfl | exact Or.inr rfl) (by first | exact Or.inl rfl | exact Or.inr rfl))) (fun _ _ _ _ _ => pts_nil) (fun _ _ _ _ _ => (pe_ix (ixT (K := K)) (pv 3) pe_int (fun _ _ => rfl)))) pa_nil)) (pa_cons (pe_callTy (cTuple (K := K)) (by rfl) B.tuple (by decide +kernel) (pa_cons (pv 1) pa_nil)) pa_nil)))))))), fun ds0 P0 hd => ?_⟩
  obtain ⟨p, n, ks, rfl, h1, rfl⟩ := hd
  have hl := h1.len
  have hn := h1.n1
  have hne : 0 < ks.length := by
    cases ks with
    | nil => exact absurd rfl h1.ne
    | cons k ks => simp
  have hg : ks.getD 0 k0 ∈ ks := by
    rw [List.getD_eq_getElem?_getD, List.getElem?_eq_getElem hne]
    exact List.getElem_mem hne
  have hgk := h1.all _ hg
  refine sj_seq (sj_asgN (xn_lst xa_nil (fun ds e => by rw [e]; simp)) fun ds e => ?_)
  subst e
  refine sj_seq (sj_forT (xs := List.range n) (A := fun i : Nat => PyData.int (i : Int)) (xid_rangeN (k := n) (xad_cons ((xd_cb (xad_cons (xd_op (xd_op (xd_var rfl) xd_int (rd_ixC 0 k0 rfl ?_)) xd_int (rd_ixT rfl)) xad_nil) rc_lenE).is ?_) xad_nil) ?_) (fun i δ _ => ∃ s2 s3, δ = [.val (keysD ks), .own (((List.range i).map (colAt ks)).map rowD), s2, s3]) ⟨.un, .un, rfl⟩ (fun i x δ' m hx iv => ?_) (fun δ' m iv => ?_))
  · exact hne
  · rw [hgk.1.nn]
  · omega
  · obtain ⟨s2, s3, rfl⟩ := iv
    have hi : i < n := by
      have := (List.getElem?_eq_some_iff.mp hx).1
      simpa using this
    rw [List.getElem?_range hi] at hx
    cases hx
    refine ⟨_, [2], xg_name, sj_append (i := 1) rfl ((xd_cb (xad_cons (xd_lcMap (xs := ks) (A := keyD) (js := [3]) (xid_tup (xd_var rfl)) (by simp) ?_ (fun x hx => xg_name) (fun x hx => (xd_op (xd_op (xd_var rfl) xd_int (rd_ixT rfl)) (xd_var rfl) (rd_ixG [] ?_)))) (xad_cons (xd_tup xad_nil (by simp)) xad_nil)) (rc_sumT (dss := ks.map fun k => (k.cols.getD i []).map PyData.int) ?_ ?_)) _) (by simp; omega) fun d e => ?_⟩
    · omega
    · rw [(h1.all x hx).1.nn]
      exact hi
    · rw [List.map_map]
      rfl
    · have : (ks.map fun k => (k.cols.getD i []).map PyData.int).flatten = (colAt ks i).map PyData.int := by
        unfold colAt
        rw [List.map_flatten, List.map_map]
        rfl
      rw [this, List.length_map]
      refine Nat.le_trans (flat_len2 (fun r hr => ?_) ?_) (by omega)
      · obtain ⟨k, hk, rfl⟩ := List.mem_map.mp hr
        have hkk := (h1.all k hk).1
        have := getD_some (rs := k.cols) (i := i) (by rw [hkk.nn]; exact hi) []
        have := (hkk.col _ (List.mem_of_getElem? this)).1
        have := hkk.mm
        omega
      · simp; omega
    · subst e
      have hs : ((List.range (i + 1)).map (colAt ks)).map rowD = ((List.range i).map (colAt ks)).map rowD ++ [rowD (colAt ks i)] := by
        rw [List.range_succ, List.map_append, List.map_append]
        rfl
      have : (ks.map fun k => (k.cols.getD i []).map PyData.int).flatten = (colAt ks i).map PyData.int := by
        unfold colAt
        rw [List.map_flatten, List.map_map]
        rfl
      rw [hs, this]
      exact ⟨_, _, rfl⟩
  · obtain ⟨s2, s3, rfl⟩ := iv
    refine sj_freeze (i := 1) rfl (sj_retD (xd_tup (xad_cons (xd_op (xd_op (xd_var rfl) xd_int (rd_ixC 0 k0 rfl ?_)) xd_int (rd_ixT rfl)) (xad_cons (xd_cb (xad_cons (xd_lcMap (js := [3]) (xid_tup (xd_var rfl)) (by simp) ?_ (fun x hx => xg_name) (fun x hx => (xd_op (xd_var rfl) xd_int (rd_ixT rfl)))) xad_nil) rc_sumE) (xad_cons (xd_cb (xad_cons (xd_var rfl) xad_nil) rc_tupleL) xad_nil))) (by simp)) ?_)
    · exact hne
    · omega
    · rw [List.length_range]
      show PyData.tuple [.int (ks.getD 0 k0).p, .int (ks.map fun x => ((x.m : Nat) : Int)).sum, rowsD ((List.range n).map (colAt ks))] = _
      have e1 : (ks.map fun x => ((x.m : Nat) : Int)).sum = (((ks.map (·.m)).sum : Nat) : Int) := by
        clear hl hne hg hgk h1
        induction ks with
        | nil => rfl
        | cons k ks ih => simp [ih]
      rw [e1, ← inOne_m h1.ne, ← inOne_cols h1, hgk.1.pp, ← (inOne_all h1).pp]
theorem sc_l_joint_mark : FnScope ["_law_keys_so", "_law_rows_so", "_law_cell_so", "_law_p_so", "_law_own", "_law_row_so"] ["_law_keys_so", "_law_rows_so", "_law_cell_so"] (defScope s_l_joint_mark) := ⟨rfl, rfl, rfl, by decide +kernel, rfl, by decide +kernel, by decide +kernel⟩
abbrev lv_l_joint_mark : Nat := 2
def dom_l_joint_mark : List PyData → (PyData → Prop) → Prop := fun ds0 P0 => ∃ (p n i : Nat) (ks : List Ky) (rs : List (List Int)), ds0 = [keysD ks, rowsD rs, .int i] ∧ (KsOk p n ks) ∧ (JRows p ks rs) ∧ (i < n) ∧ P0 = (fun z => z = .int (rowProd p rs.flatten (colAt ks i)))
abbrev sp_l_joint_mark (K : PySem.W.Frag) : Sp := SpD K dom_l_joint_mark
theorem xc_l_joint_mark {K : PySem.W.Frag} {tr : TA} {δ : List Sl} {p n i : Nat} {ks : List Ky} {rs : List (List Int)} (h0 : XAD K tr δ [keysD ks, rowsD rs, .int i]) (h1 : KsOk p n ks) (h2 : JRows p ks rs) (h3 : i < n) : XD K (tCall (sp_l_joint_mark K) [] E0 tr) δ (.int (rowProd p rs.flatten (colAt ks i))) := xd_callD h0 ⟨_, _, _, _, _, rfl, h1, h2, h3, rfl⟩
theorem ok_l_joint_mark (D : Df K mg "_law_joint_mark" s_l_joint_mark) (B : Bi mg) (C_l_product : Call1 P w K mg base CX0 lv_l_product "_law_product" (sp_l_product K)) : Call1 P w K mg base CX0 lv_l_joint_mark "_law_joint_mark" (sp_l_joint_mark K) := by
  refine fun_ok (k := 1) (N := ["_law_keys_so", "_law_rows_so", "_law_cell_so", "_law_p_so", "_law_own", "_law_row_so"]) (ps := ["_law_keys_so", "_law_rows_so", "_law_cell_so"]) D sc_l_joint_mark (fun ds0 P0 hd => by obtain ⟨p, n, i, ks, rs, rfl, h1, h2, h3, rfl⟩ := hd; rfl) (fun _ _ _ _ _ _ us hl => match us, hl with | [_, _, _], _ => rfl) fun f cdv A outer s H E hr => ⟨_, 
    (pss_cons (ps_set (i := 3) sc_l_joint_mark.nd rfl (by first | exact Or.inl rfl | exact Or.inr rfl) (pe_ix (ixT (K := K)) (pe_ix (ixT (K := K)) (pv 0) pe_int (fun _ _ => rfl)) pe_int (fun _ _ => rfl)) (hf := (by first | exact Or.inl rfl | exact Or.inr rfl)))
      (pss_one (ps_ret (pe_op op_mod (pe_callB (cSum (K := K) rfl) (by rfl) B.sum (by decide +kernel) (pa_cons (pe_lc (own := [("_law_own", 4), ("_law_row_so", 5)]) (g := (gTup K 2 (gCons (gName 4) (gCons (gName 5) gNil)))) (tt := tYes) rfl sc_l_joint_mark.nd (piZip (K := K) (by rfl) B.zip (pa_cons (pv 0) (pa_cons (pv 1) pa_nil))) (blkOk_by (N := ["_law_keys_so", "_law_rows_so", "_law_cell_so", "_law_p_so", "_law_own", "_law_row_so"]) (sc := defScope s_l_joint_mark) (by decide +kernel)) (fun _ _ _ _ _ => (pgTup (K := K) rfl (pgs_cons (pgN (i := 4) sc_l_joint_mark.nd rfl (by first | exact Or.inl rfl | exact Or.inr rfl) (by first | exact Or.inl rfl | exact Or.inr rfl)) (pgs_cons (pgN (i := 5) sc_l_joint_mark.nd rfl (by first | exact Or.inl rfl | exact Or.inr rfl) (by first | exact Or.inl rfl | exact Or.inr rfl)) pgs_nil)))) (fun _ _ _ _ _ => pts_nil) (fun _ _ _ _ _ => (pe_callC C_l_product (hr.mono (by decide)) (by rfl) (pa_cons (pv 5) (pa_cons (pe_ix (ixT (K := K)) (pe_ix (ixT (K := K)) (pv 4) pe_int (fun _ _ => rfl)) (pv 2) (fun _ _ => rfl)) (pa_cons (pv 3) pa_nil)))))) pa_nil)) (pv 3))))), fun ds0 P0 hd => ?_⟩
  obtain ⟨p, n, i, ks, rs, rfl, h1, h2, h3, rfl⟩ := hd
  have hl := h1.len
  have hne : 0 < ks.length := by
    cases ks with
    | nil => exact absurd rfl h1.ne
    | cons k ks => simp
  have hg : ks.getD 0 k0 ∈ ks := by
    rw [List.getD_eq_getElem?_getD, List.getElem?_eq_getElem hne]
    exact List.getElem_mem hne
  have hgk := h1.all _ hg
  refine sj_seq (sj_asgD ((xd_op (xd_op (xd_var rfl) xd_int (rd_ixC 0 k0 rfl hne)) xd_int (rd_ixT rfl)).is (by rw [hgk.1.pp])) ?_)
  refine sj_retD (xd_op (xd_cb (xad_cons (xd_lcMap (xs := ks.zip rs) (A := fun p => .tuple [keyD p.1, rowD p.2]) (js := [4, 5]) ((xid_zipT (xad_cons (xd_var rfl) (xad_cons (xd_var rfl) xad_nil))).is zipD_map) (by simp) ?_ (fun x hx => xg_tup2) (fun x hx => (xc_l_product (p := p) (xad_cons (xd_var rfl) (xad_cons (xd_op (xd_op (xd_var rfl) xd_int (rd_ixT rfl)) (xd_var rfl) (rd_ixG [] ?_)) (xad_cons (xd_var rfl) xad_nil))) h1.hp ?_ ?_))) xad_nil) rc_sumE) (xd_var rfl) (rd_I ?_)) ?_
  · simp; omega
  · rw [(h1.all x.1 (List.of_mem_zip hx).1).1.nn]
    exact h3
  · obtain ⟨_, k, hk, e⟩ := h2.row x.2 (List.of_mem_zip hx).2
    have := (h1.all k hk).2
    omega
  · exact (h2.row x.2 (List.of_mem_zip hx).2).1
  · exact pp h1.hp
  · rw [← joint_dot (fun k hk => (h1.all k hk).1) h3 h2]
theorem beside_iff {cols : List (List Int)} {lot : List Int} {c : List Int} : c ∈ beside cols lot ↔ ∃ i : Nat, cols[i]? = some c ∧ lot.contains ((i : Nat) : Int) = false := by
  unfold beside
  rw [List.mem_map]
  constructor
  · rintro ⟨x, hx, rfl⟩
    obtain ⟨h1, h2⟩ := List.mem_filter.mp hx
    exact ⟨x.2, List.mem_zipIdx_iff_getElem?.mp h1, by simpa using h2⟩
  · rintro ⟨i, h1, h2⟩
    exact ⟨(c, i), List.mem_filter.mpr ⟨List.mem_zipIdx_iff_getElem?.mpr h1, by simpa using h2⟩, rfl⟩
theorem beside_all {p n : Nat} {ks : List Ky} {lot : List Int} (h : KsOk p n ks) (f : List Int → Bool) : (beside (inOne ks).cols lot).all f = ((List.range n).filter fun i => !lot.contains ((i : Nat) : Int) && !f (colAt ks i)).isEmpty := by
  rw [Bool.eq_iff_iff, List.all_eq_true, List.isEmpty_iff, List.filter_eq_nil_iff]
  constructor
  · intro h' i hi hb
    simp only [Bool.and_eq_true, Bool.not_eq_true'] at hb
    have : f (colAt ks i) = true := h' _ (beside_iff.mpr ⟨i, by rw [inOne_cols h, List.getElem?_map, List.getElem?_range (by simpa using hi)]; rfl, hb.1⟩)
    rw [this] at hb
    exact Bool.noConfusion hb.2
  · intro h' c hc
    obtain ⟨i, h1, h2⟩ := beside_iff.mp hc
    rw [inOne_cols h, List.getElem?_map] at h1
    have hi : i < n := by
      cases e : (List.range n)[i]? with
      | none => rw [e] at h1; cases h1
      | some x =>
        have := (List.getElem?_eq_some_iff.mp e).1
        simpa using this
    rw [List.getElem?_range hi] at h1
    cases h1
    have := h' i (by simpa using hi)
    cases e : f (colAt ks i) with
    | true => rfl
    | false => rw [h2, e] at this; exact absurd rfl this
theorem sc_l_is_binding : FnScope ["_law_keys_so", "_law_lot_so", "_law_own", "_law_k", "_law_row_so"] ["_law_keys_so", "_law_lot_so", "_law_own"] (defScope s_l_is_binding) := ⟨rfl, rfl, rfl, by decide +kernel, rfl, by decide +kernel, by decide +kernel⟩
theorem sh_ints (r : List Int) : Sh 1 (.list (r.map PyData.int)) := sh_list (sh_map fun _ _ => sh_int)
abbrev lv_l_is_binding : Nat := 4
def dom_l_is_binding : List PyData → (PyData → Prop) → Prop := fun ds0 P0 => ∃ (p n : Nat) (ks : List Ky) (lot : List Int) (d : PyData), ds0 = [keysD ks, rowD lot, d] ∧ (KsOk p n ks) ∧ (DSm d) ∧ P0 = (fun z => z = .bool (isBind p ks lot d))
abbrev sp_l_is_binding (K : PySem.W.Frag) : Sp := SpD K dom_l_is_binding
theorem xc_l_is_binding {K : PySem.W.Frag} {tr : TA} {δ : List Sl} {p n : Nat} {ks : List Ky} {lot : List Int} {d : PyData} (h0 : XAD K tr δ [keysD ks, rowD lot, d]) (h1 : KsOk p n ks) (h2 : DSm d) : XD K (tCall (sp_l_is_binding K) [] E0 tr) δ (.bool (isBind p ks lot d)) := xd_callD h0 ⟨_, _, _, _, _, rfl, h1, h2, rfl⟩
theorem ok_l_is_binding (D : Df K mg "_law_is_binding" s_l_is_binding) (B : Bi mg) (C_l_is_joint : Call1 P w K mg base CX0 lv_l_is_joint "_law_is_joint" (sp_l_is_joint K)) (C_l_joint_mark : Call1 P w K mg base CX0 lv_l_joint_mark "_law_joint_mark" (sp_l_joint_mark K)) : Call1 P w K mg base CX0 lv_l_is_binding "_law_is_binding" (sp_l_is_binding K) := by
  refine fun_ok (k := 3) (N := ["_law_keys_so", "_law_lot_so", "_law_own", "_law_k", "_law_row_so"]) (ps := ["_law_keys_so", "_law_lot_so", "_law_own"]) D sc_l_is_binding (fun ds0 P0 hd => by obtain ⟨p, n, ks, lot, d, rfl, h1, h2, rfl⟩ := hd; rfl) (fun _ _ _ _ _ _ us hl => match us, hl with | [_, _, _], _ => rfl) fun f cdv A outer s H E hr => ⟨_, 
    (pss_cons (ps_if (PW.pt (pw_or (pt_not (pt_val (pe_callC C_l_is_joint (hr.mono (by decide)) (by rfl) (pa_cons (pv 0) (pa_cons (pv 2) pa_nil))))) (pw_or1 (pt_cmpR (opEqD (K := K) hr.units) (pe_lc (own := [("_law_row_so", 4)]) (g := (gName 4)) rfl sc_l_is_binding.nd (piSeq (K := K) (pv 2)) (blkOk_by (N := ["_law_keys_so", "_law_lot_so", "_law_own", "_law_k", "_law_row_so"]) (sc := defScope s_l_is_binding) (by decide +kernel)) (fun _ _ _ _ _ => (pgN (i := 4) sc_l_is_binding.nd rfl (by first | exact Or.inl rfl | exact Or.inr rfl) (by first | exact Or.inl rfl | exact Or.inr rfl))) (fun _ _ _ _ _ => (pts_one (pt_val (pe_callB (cAnyT (K := K) rfl) (by rfl) B.any (by decide +kernel) (pa_cons (pv 4) pa_nil))))) (fun _ _ _ _ _ => pe_int)) (pe_lst pa_nil) (nomark _))))) (pss_one (ps_ret pe_bl)) pss_nil)
      (pss_one (ps_ret (pe_cmpR (opEqD (K := K) hr.units) (pe_lc (own := [("_law_k", 3)]) (g := (gName 3)) rfl sc_l_is_binding.nd (pi_range1 (by rfl) B.range (pa_cons (pe_callB (cLen (K := K)) (by rfl) B.len PySem.boot_len (pa_cons (pe_ix (ixT (K := K)) (pe_ix (ixT (K := K)) (pv 0) pe_int (fun _ _ => rfl)) pe_int (fun _ _ => rfl)) pa_nil)) pa_nil)) (blkOk_by (N := ["_law_keys_so", "_law_lot_so", "_law_own", "_law_k", "_law_row_so"]) (sc := defScope s_l_is_binding) (by decide +kernel)) (fun _ _ _ _ _ => (pgN (i := 3) sc_l_is_binding.nd rfl (by first | exact Or.inl rfl | exact Or.inr rfl) (by first | exact Or.inl rfl | exact Or.inr rfl))) (fun _ _ _ _ _ => (pts_one (PW.pt (pw_and (pt_cmpR (opNotIn (K := K)) (pv 3) (pv 1) (by rfl)) (pw_and1 (pt_cmpR op_ne (pe_callC C_l_joint_mark (hr.mono (by decide)) (by rfl) (pa_cons (pv 0) (pa_cons (pv 2) (pa_cons (pv 3) pa_nil)))) pe_int (nomark _))))))) (fun _ _ _ _ _ => (pv 3))) (pe_lst pa_nil) (nomark _))))), fun ds0 P0 hd => ?_⟩
  obtain ⟨p, n, ks, lot, d, rfl, h1, h2, rfl⟩ := hd
  have hl := h1.len
  have hn := h1.n1
  have hne : 0 < ks.length := by
    cases ks with
    | nil => exact absurd rfl h1.ne
    | cons k ks => simp
  have hg : ks.getD 0 k0 ∈ ks := by
    rw [List.getD_eq_getElem?_getD, List.getElem?_eq_getElem hne]
    exact List.getElem_mem hne
  have hgk := h1.all _ hg
  cases hj : isJoint ks d with
  | false =>
    refine sj_seq (sj_ifT (XT.is (xt_or (b := true) (c := false) (xt_not (b := false) (xt_val ((xc_l_is_joint (xad_cons (xd_var rfl) (xad_cons (xd_var rfl) xad_nil)) h2 (by omega)).is (by rw [hj])))) fun z => nomatch z) rfl) (sj_retD xd_bl ?_))
    simp [isBind, hj]
  | true =>
    obtain ⟨e1, e2⟩ := joint_rows (fun k hk => (h1.all k hk).1.pp) hj
    rw [e1]
    generalize toRows d = rs at e1 e2
    subst e1
    have hrl := e2.len
    refine sj_seq (sj_if (XT.is (xt_or (b := false) (xt_not (b := true) (xt_val ((xc_l_is_joint (xad_cons (xd_var rfl) (xad_cons (xd_var rfl) xad_nil)) h2 (by omega)).is (by rw [hj])))) fun _ => (xt_test (xd_op (xd_lcFil (xs := rs) (A := rowD) (js := [4]) (xid_seqT (xd_var rfl)) (by simp) ?_ (fun x hx => xg_name) (fun x hx => (xt_val (xd_cb (xad_cons (xd_var rfl) xad_nil) rc_anyT))) (fun x hx hb => xd_int)) (xd_lst xad_nil (by simp)) (rd_eqD ?_ ?_)))) (Bool.false_or _)) (fun hb => sj_retD xd_bl ?_) (fun hb => sj_next ?_))
    · omega
    · exact (sh_list (k := 0) (sh_map fun _ _ => sh_int)).ok
    · exact sh_nilL.ok
    · rw [eqv_nilL, List.isEmpty_iff, List.map_eq_nil_iff, List.filter_eq_nil_iff] at hb
      have : (rs.any fun r => r.any fun i => i != 0) = false := by
        rw [List.any_eq_false]
        exact hb
      simp only [isBind, rowsD_toRows, bindR, this, Bool.false_and, Bool.and_false]
    · rw [eqv_nilL] at hb
      have : (rs.any fun r => r.any fun i => i != 0) = true := by
        cases hc : (rs.any fun r => r.any fun i => i != 0) with
        | true => rfl
        | false =>
          rw [List.any_eq_false] at hc
          rw [List.filter_eq_nil_iff.mpr hc] at hb
          cases hb
      refine sj_retD (xd_op (xd_lcFil (xs := List.range n) (A := fun i : Nat => PyData.int (i : Int)) (js := [3]) (xid_rangeN (xad_cons ((xd_cb (xad_cons (xd_op (xd_op (xd_var rfl) xd_int (rd_ixC 0 k0 rfl hne)) xd_int (rd_ixT rfl)) xad_nil) rc_lenE).is (by rw [hgk.1.nn])) xad_nil) ?_) (by simp) ?_ (fun x hx => xg_name) (fun x hx => (xt_and (xt_test (xd_op (xd_var rfl) (xd_var rfl) rd_notInT)) fun _ => (xt_test (xd_op (xc_l_joint_mark (xad_cons (xd_var rfl) (xad_cons (xd_var rfl) (xad_cons (xd_var rfl) xad_nil))) h1 e2 (by simpa using hx)) xd_int rd_neI)))) (fun x hx hb => (xd_var rfl))) (xd_lst xad_nil (by simp)) (rd_eqD ?_ ?_)) ?_
      · omega
      · simp; omega
      · exact (sh_list (k := 0) (sh_map fun _ _ => sh_int)).ok
      · exact sh_nilL.ok
      · rw [eqv_nilL]
        simp only [isBind, rowsD_toRows, bindR, this, hj, Bool.true_and]
        rw [beside_all h1]
        simp
end
end Dry

set_option Elab.async false
set_option linter.all false
set_option maxRecDepth 100000
set_option maxHeartbeats 4000000
namespace Dry
open PySem PySem.Spec PyProof.Rows L2 RZ
section
variable {P : Program} {w : World} {K : PySem.W.Frag} {mg : Str → Option Value} {base : Heap}
def prD : Option Int → PyData
  | none => .none
  | some w => .int w
abbrev pricesD (ps : List (Option Int)) : PyData := .tuple (ps.map prD)
def canPay (ps : List (Option Int)) (gs : List Int) (p i : Nat) (r : Int) : Bool := decide (gs.getD i 0 % (p : Int) = r) || (ps.getD i none).isSome
def PrOk2 (ps : List (Option Int)) (n : Nat) : Prop := ps.length = n ∧ ∀ w, some w ∈ ps → 0 ≤ w ∧ w ≤ 100
theorem sc_l_price : FnScope ["_law_picture_so", "_law_prices_so", "_law_p_so", "_law_cell_so", "_law_rest_so", "_law_grey_so", "_law_weight_so"] ["_law_picture_so", "_law_prices_so", "_law_p_so", "_law_cell_so", "_law_rest_so"] (defScope s_l_price) := ⟨rfl, rfl, rfl, by decide +kernel, rfl, by decide +kernel, by decide +kernel⟩
abbrev lv_l_price : Nat := 2
def dom_l_price : List PyData → (PyData → Prop) → Prop := fun ds0 P0 => ∃ (p n top i : Nat) (rs : List (List Int)) (ps : List (Option Int)) (r : Int), ds0 = [picD top rs, pricesD ps, .int p, .int i, .int r] ∧ (p = 2 ∨ p = 3) ∧ (PicOk top n rs) ∧ (PrOk2 ps n) ∧ (i < n) ∧ (0 ≤ r ∧ r < (p : Int)) ∧ P0 = (fun z => if canPay ps rs.flatten p i r = true then ∃ c : Int, z = .int c else z = .none)
abbrev sp_l_price (K : PySem.W.Frag) : Sp := SpD K dom_l_price
theorem xc_l_price {K : PySem.W.Frag} {tr : TA} {δ : List Sl} {nn : Nat} {p n top i : Nat} {rs : List (List Int)} {ps : List (Option Int)} {r : Int} (h0 : XAD K tr δ [picD top rs, pricesD ps, .int p, .int i, .int r]) (hp : p = 2 ∨ p = 3) (h1 : PicOk top n rs) (h2 : PrOk2 ps n) (h3 : i < n) (h4 : 0 ≤ r ∧ r < (p : Int)) : XB K (tCall (sp_l_price K) [] E0 tr) δ nn nn (fun z => if canPay ps rs.flatten p i r = true then ∃ c : Int, z = .int c else z = .none) := xb_callD (h0 nn) fun es e => by rw [e]; exact ⟨_, _, _, _, _, _, _, rfl, hp, h1, h2, h3, h4, rfl⟩
theorem ok_l_price (D : Df K mg "_law_price" s_l_price) (B : Bi mg) (C_l_grey_for : Call1 P w K mg base CX0 lv_l_grey_for "_law_grey_for" (sp_l_grey_for K)) (C_l_greys : Call1 P w K mg base CX0 lv_l_greys "_law_greys" (sp_l_greys K)) : Call1 P w K mg base CX0 lv_l_price "_law_price" (sp_l_price K) := by
  refine fun_ok (k := 1) (N := ["_law_picture_so", "_law_prices_so", "_law_p_so", "_law_cell_so", "_law_rest_so", "_law_grey_so", "_law_weight_so"]) (ps := ["_law_picture_so", "_law_prices_so", "_law_p_so", "_law_cell_so", "_law_rest_so"]) D sc_l_price (fun ds0 P0 hd => by obtain ⟨p, n, top, i, rs, ps, r, rfl, hp, h1, h2, h3, h4, rfl⟩ := hd; rfl) (fun _ _ _ _ _ _ us hl => match us, hl with | [_, _, _, _, _], _ => rfl) fun f cdv A outer s H E hr => ⟨_, 
    (pss_cons (ps_par (i := 5) (j := 6) rfl sc_l_price.nd rfl rfl (by decide) rfl rfl (pa_cons (pe_ix (ixL (K := K)) (pe_callC C_l_greys (hr.mono (by decide)) (by rfl) (pa_cons (pv 0) pa_nil)) (pv 3) (fun _ _ => rfl)) (pa_cons (pe_ix (ixT (K := K)) (pv 1) (pv 3) (fun _ _ => rfl)) pa_nil)) (by rfl))
      (pss_cons (ps_if (pt_cmpR op_eq (pe_op op_mod (pv 5) (pv 2)) (pv 4) (nomark _)) (pss_one (ps_ret pe_int)) pss_nil)
      (pss_cons (ps_if (pt_cmp (pc_isN (pv 6))) (pss_one (ps_ret pe_non)) pss_nil)
      (pss_one (ps_ret (pe_op op_mul (pv 6) (pe_callB call_abs (by rfl) B.abs (by decide +kernel) (pa_cons (pe_op op_sub (pe_callC C_l_grey_for (hr.mono (by decide)) (by rfl) (pa_cons (pe_ix (ixT (K := K)) (pv 0) pe_int (fun _ _ => rfl)) (pa_cons (pv 5) (pa_cons (pv 2) (pa_cons (pv 4) pa_nil))))) (pv 5)) pa_nil)))))))), fun ds0 P0 hd => ?_⟩
  obtain ⟨p, n, top, i, rs, ps, r, rfl, hp, h1, h2, h3, h4, rfl⟩ := hd
  have b1 := h1.len
  have b2 := h1.flat
  have b3 := h1.n1
  obtain ⟨c1, c2⟩ := h2
  refine sj_seq (sj_par (xs_val ((xd_op (xc_l_greys (xad_cons (xd_var rfl) xad_nil) b1 (by omega)) (xd_var rfl) (rd_ixLG 0 (by omega))) _)) (xs_val ((xd_op (xd_var rfl) (xd_var rfl) (rd_ixG (enc := prD) none (by omega))) _)) fun s s' ⟨ds, e3, e4⟩ ⟨d, e1, e2⟩ => ?_)
  subst e1 e2 e3 e4
  refine sj_seq (sj_if (XT.is (xt_test (xd_op (xd_op (xd_var rfl) (xd_var rfl) (rd_I ?_)) (xd_var rfl) rd_eqI)) rfl) (fun hb => sj_retD xd_int ?_) (fun hb => sj_next ?_))
  · exact pp hp
  · have : rs.flatten.getD i 0 % (p : Int) = r := by simpa using hb
    show if canPay ps rs.flatten p i r = true then _ else _
    rw [if_pos (by unfold canPay; rw [decide_eq_true this]; rfl)]
    exact ⟨_, rfl⟩
  · have hne : ¬ (rs.flatten.getD i 0 % (p : Int) = r) := by simpa using hb
    cases e : ps.getD i none with
    | none =>
      refine sj_seq (sj_ifT (XT.is (xt_val (xd_isN (xd_var rfl))) rfl) (sj_retD xd_non ?_))
      show if canPay ps rs.flatten p i r = true then _ else _
      rw [if_neg (by unfold canPay; rw [e, decide_eq_false hne]; exact fun z => nomatch z)]
    | some w =>
      have hw : 0 ≤ w ∧ w ≤ 100 := by
        refine c2 w ?_
        have := getD_some (rs := ps) (i := i) (by omega) none
        rw [e] at this
        exact List.mem_of_getElem? this
      refine sj_seq (sj_ifF (XT.is (xt_val (xd_isN (xd_var rfl))) rfl) (sj_next ?_))
      refine sj_ret (n1 := 0) (P := fun z => ∃ c : Int, z = .int c) (xb_op (n1 := 0) (P := fun z => z = .int w) (P' := fun z => ∃ c : Int, z = .int c) (xd_var rfl _) (xb_cb (PL := fun z => ∃ c : Int, z = [.int c]) ((xa_cons (n1 := 0) (P := fun z => ∃ c : Int, z = .int c) (xb_op (n1 := 0) (P := fun z => ∃ i : Int, z = .int i ∧ 0 ≤ i ∧ i ≤ (top : Int)) (P' := fun z => z = .int (rs.flatten.getD i 0)) (xc_l_grey_for (xad_cons (xd_op (xd_var rfl) xd_int (rd_ixT rfl)) (xad_cons (xd_var rfl) (xad_cons (xd_var rfl) (xad_cons (xd_var rfl) xad_nil)))) hp ⟨h1.t0, h1.t1⟩ h4) (xd_var rfl _) (fun d e hd he => ?_)) xa_nil).imp (Nat.le_refl _) (fun z ⟨d, es, e1, ⟨c, e2⟩, e3⟩ => ⟨c, by rw [e1, e2, e3]⟩)) (fun ds hds => ?_)) (fun d e hd he => ?_)) (fun d hd => ?_)
      · obtain ⟨c, rfl, _⟩ := hd
        subst he
        intro x' y' bx n' δ σ G H E r1 r2 Q q
        exact rd_I0 x' y' bx n' δ σ G H E r1 r2 Q fun v f G' H' t r e => q v f G' H' t r ⟨_, e⟩
      · obtain ⟨c, rfl⟩ := hds
        intro vs bx n' δ σ G H E r1 Q q
        exact rc_abs vs bx n' δ σ G H E r1 Q fun v f G' H' t r e => q v f G' H' t r ⟨_, e⟩
      · subst hd
        obtain ⟨c, rfl⟩ := he
        intro x' y' bx n' δ σ G H E r1 r2 Q q
        exact rd_I (.inl ⟨by omega, by omega⟩) x' y' bx n' δ σ G H E r1 r2 Q fun v f G' H' t r e => q v f G' H' t r ⟨_, e⟩
      · show if canPay ps rs.flatten p i r = true then _ else _
        rw [if_pos (by unfold canPay; rw [e]; exact Bool.or_true _)]
        exact hd
mutual
def lsts : PyData → PyData
  | .list xs => .list (lstsAll xs)
  | .tuple xs => .list (lstsAll xs)
  | d => d
def lstsAll : List PyData → List PyData
  | [] => []
  | x :: xs => lsts x :: lstsAll xs
end
theorem lstsAll_map : ∀ xs : List PyData, lstsAll xs = xs.map lsts
  | [] => by simp [lstsAll]
  | x :: xs => by simp [lstsAll, lstsAll_map xs]
theorem sc_l_lists : FnScope ["_law_matter", "_law_bit"] ["_law_matter"] (defScope s_l_lists) := ⟨rfl, rfl, rfl, by decide +kernel, rfl, by decide +kernel, by decide +kernel⟩
def dom_l_lists (k : Nat) : List PyData → (PyData → Prop) → Prop := fun ds P => ∃ d, ds = [d] ∧ TOk k d ∧ P = fun z => z = lsts d
abbrev sp_l_lists (K : PySem.W.Frag) : Sp := SpD K (dom_l_lists 6)
theorem xc_l_lists' {K : PySem.W.Frag} {tr : TA} {δ : List Sl} {d : PyData} {k : Nat} (h : XAD K tr δ [d]) (hd : TOk k d) : XD K (tCall (SpD K (dom_l_lists k)) [] E0 tr) δ (lsts d) := xd_callD h ⟨d, rfl, hd, rfl⟩
theorem xc_l_lists {K : PySem.W.Frag} {tr : TA} {δ : List Sl} {d : PyData} (h : XAD K tr δ [d]) (hd : TOk 6 d) : XD K (tCall (sp_l_lists K) [] E0 tr) δ (lsts d) := xc_l_lists' h hd
abbrev lv_l_lists : Nat := 6
theorem step_l_lists (D : Df K mg "_law_lists" s_l_lists) (B : Bi mg) (k : Nat) (C_l_lists : Call1 P w K mg base CX0 k "_law_lists" (SpD K (dom_l_lists k))) : Call1 P w K mg base CX0 (k + 1) "_law_lists" (SpD K (dom_l_lists (k + 1))) := by
  refine fun_ok (k := k) (N := ["_law_matter", "_law_bit"]) (ps := ["_law_matter"]) D sc_l_lists (fun ds0 P0 hd => by obtain ⟨d, rfl, _, rfl⟩ := hd; rfl) (fun _ _ _ _ _ _ us hl => match us, hl with | [_], _ => rfl) fun f cdv A outer s H E hr => ⟨_,
    (pss_one (ps_ret (pe_ifExp (pt_val (pe_callB (cIsi2 (K := K)) (by rfl) B.isinstance (by decide +kernel) (pa_cons (pv 0) (pa_cons (pe_tup (pa_cons (pe_bltn (v := .ty "list") (by rfl) B.list (by decide +kernel) rfl) (pa_cons (pe_bltn (v := .ty "tuple") (by rfl) B.tuple (by decide +kernel) rfl) pa_nil))) pa_nil)))) (pe_lc (own := [("_law_bit", 1)]) (g := (gName 1)) (tt := tYes) rfl sc_l_lists.nd (piSeq (K := K) (pv 0)) (blkOk_by (N := ["_law_matter", "_law_bit"]) (sc := defScope s_l_lists) (by decide +kernel)) (fun _ _ _ _ _ => (pgN (i := 1) sc_l_lists.nd rfl (by first | exact Or.inl rfl | exact Or.inr rfl) (by first | exact Or.inl rfl | exact Or.inr rfl))) (fun _ _ _ _ _ => pts_nil) (fun _ _ _ _ _ => (pe_callC C_l_lists hr (by rfl) (pa_cons (pv 1) pa_nil)))) (pv 0)))), fun ds0 P0 hd => ?_⟩
  obtain ⟨d, rfl, h, rfl⟩ := hd
  cases d with
  | list xs =>
    refine sj_retD (xd_if (b := true) (XT.is (xt_val (xd_isi2 (xd_var rfl) kit_list kit_tuple)) rfl) (fun _ => (xd_lcMap (A := fun z => z) (js := [1]) ((xid_seqL (xd_var rfl)).is (List.map_id' xs).symm) (by simp) ?_ (fun x hx => xg_name) (fun x hx => (xc_l_lists' (xad_cons (xd_var rfl) xad_nil) (h.2 x hx))))) fun z => nomatch z) ?_
    · exact h.1
    · simp only [lsts, lstsAll_map]
  | tuple xs =>
    refine sj_retD (xd_if (b := true) (XT.is (xt_val (xd_isi2 (xd_var rfl) kit_list kit_tuple)) rfl) (fun _ => (xd_lcMap (A := fun z => z) (js := [1]) ((xid_seqT (xd_var rfl)).is (List.map_id' xs).symm) (by simp) ?_ (fun x hx => xg_name) (fun x hx => (xc_l_lists' (xad_cons (xd_var rfl) xad_nil) (h.2 x hx))))) fun z => nomatch z) ?_
    · exact h.1
    · simp only [lsts, lstsAll_map]
  | none => exact sj_retD (xd_if (b := false) (XT.is (xt_val (xd_isi2 (xd_var rfl) kit_list kit_tuple)) rfl) (fun z => nomatch z) fun _ => (xd_var rfl)) (by simp [lsts])
  | bool b => exact sj_retD (xd_if (b := false) (XT.is (xt_val (xd_isi2 (xd_var rfl) kit_list kit_tuple)) rfl) (fun z => nomatch z) fun _ => (xd_var rfl)) (by simp [lsts])
  | int b => exact sj_retD (xd_if (b := false) (XT.is (xt_val (xd_isi2 (xd_var rfl) kit_list kit_tuple)) rfl) (fun z => nomatch z) fun _ => (xd_var rfl)) (by simp [lsts])
  | str b => exact sj_retD (xd_if (b := false) (XT.is (xt_val (xd_isi2 (xd_var rfl) kit_list kit_tuple)) rfl) (fun z => nomatch z) fun _ => (xd_var rfl)) (by simp [lsts])
  | dict b => exact sj_retD (xd_if (b := false) (XT.is (xt_val (xd_isi2 (xd_var rfl) kit_list kit_tuple)) rfl) (fun z => nomatch z) fun _ => (xd_var rfl)) (by simp [lsts])
theorem ok_l_lists (D : Df K mg "_law_lists" s_l_lists) (B : Bi mg) : Call1 P w K mg base CX0 lv_l_lists "_law_lists" (sp_l_lists K) := by
  have h0 : Call1 P w K mg base CX0 0 "_law_lists" (SpD K (dom_l_lists 0)) := (call_none (ps := ["_law_matter"]) D (fun _ _ _ _ _ _ us hl => match us, hl with | [_], _ => rfl)).mono (Nat.le_refl _) fun vs H Q E ⟨ds, P, G, a, b, ⟨d, e, h, _⟩, c⟩ => h.elim
  have go : ∀ k, Call1 P w K mg base CX0 k "_law_lists" (SpD K (dom_l_lists k)) := fun k => by
    induction k with
    | zero => exact h0
    | succ k ih => exact step_l_lists D B k ih
  exact go 6
/-- shaped data, k deep -/
def SOk : Nat → PyData → Prop
  | 0, _ => False
  | k + 1, .list xs => xs.length ≤ 50000 ∧ ∀ x ∈ xs, SOk k x
  | k + 1, .tuple xs => xs.length ≤ 50000 ∧ ∀ x ∈ xs, SOk k x
  | _ + 1, .dict _ => False
  | _ + 1, .str x => PyData.strOk x = true
  | _ + 1, _ => True
theorem SOk.sh : ∀ {k : Nat} {d : PyData}, SOk k d → Sh k d
  | k + 1, .list xs, h => sh_list fun x hx => (h.2 x hx).sh
  | k + 1, .tuple xs, h => sh_tup fun x hx => (h.2 x hx).sh
  | _ + 1, .str x, h => ⟨by simp only [PyData.canLay0]; exact h, Nat.zero_le _⟩
  | _ + 1, .none, _ => ⟨rfl, Nat.zero_le _⟩
  | _ + 1, .bool _, _ => ⟨rfl, Nat.zero_le _⟩
  | _ + 1, .int _, _ => ⟨rfl, Nat.zero_le _⟩
def sameD : Nat → PyData → PyData → Bool
  | 0, _, _ => false
  | k + 1, .list gs, .list ds => decide ((gs.length : Int) = ds.length) && (gs.zip ds).all fun x => sameD k x.1 x.2
  | k + 1, .tuple gs, .tuple ds => decide ((gs.length : Int) = ds.length) && (gs.zip ds).all fun x => sameD k x.1 x.2
  | _ + 1, _, .list _ => false
  | _ + 1, _, .tuple _ => false
  | _ + 1, g, d => if isN d || (isBool d || isStr d) then PyData.eqv g d && (decide (isBool g = isBool d) && decide (isN g = isN d)) else isInt g && (!isBool g && PyData.eqv g d)
theorem zipD_id (xs ys : List PyData) : zipD xs ys = (xs.zip ys).map fun x => .tuple [x.1, x.2] := by
  have := zipD_map (xs := xs) (A := fun z => z) (ys := ys) (B := fun z => z)
  rw [List.map_id', List.map_id'] at this
  exact this
theorem sc_l_same : FnScope ["_law_got", "_law_due", "_law_mine", "_law_its"] ["_law_got", "_law_due"] (defScope s_l_same) := ⟨rfl, rfl, rfl, by decide +kernel, rfl, by decide +kernel, by decide +kernel⟩
def dom_l_same (k : Nat) : List PyData → (PyData → Prop) → Prop := fun ds P => ∃ g d, ds = [g, d] ∧ SOk k g ∧ SOk k d ∧ P = fun z => z = .bool (sameD k g d)
abbrev sp_l_same (K : PySem.W.Frag) : Sp := SpD K (dom_l_same 8)
theorem xc_l_same' {K : PySem.W.Frag} {tr : TA} {δ : List Sl} {g d : PyData} {k : Nat} (h : XAD K tr δ [g, d]) (hg : SOk k g) (hd : SOk k d) : XD K (tCall (SpD K (dom_l_same k)) [] E0 tr) δ (.bool (sameD k g d)) := xd_callD h ⟨g, d, rfl, hg, hd, rfl⟩
theorem xc_l_same {K : PySem.W.Frag} {tr : TA} {δ : List Sl} {g d : PyData} (h : XAD K tr δ [g, d]) (hg : SOk 8 g) (hd : SOk 8 d) : XD K (tCall (sp_l_same K) [] E0 tr) δ (.bool (sameD 8 g d)) := xc_l_same' h hg hd
abbrev lv_l_same : Nat := 8
theorem step_l_same (D : Df K mg "_law_same" s_l_same) (B : Bi mg) (k : Nat) (hk : k ≤ 60) (C_l_same : Call1 P w K mg base CX0 k "_law_same" (SpD K (dom_l_same k))) : Call1 P w K mg base CX0 (k + 1) "_law_same" (SpD K (dom_l_same (k + 1))) := by
  refine fun_ok (k := k) (N := ["_law_got", "_law_due", "_law_mine", "_law_its"]) (ps := ["_law_got", "_law_due"]) D sc_l_same (fun ds0 P0 hd => by obtain ⟨g, d, rfl, _, _, rfl⟩ := hd; rfl) (fun _ _ _ _ _ _ us hl => match us, hl with | [_, _], _ => rfl) fun f cdv A outer s H E hr => ⟨_,
    (pss_cons (ps_if (pt_val (pe_callB (cIsi2 (K := K)) (by rfl) B.isinstance (by decide +kernel) (pa_cons (pv 1) (pa_cons (pe_tup (pa_cons (pe_bltn (v := .ty "list") (by rfl) B.list (by decide +kernel) rfl) (pa_cons (pe_bltn (v := .ty "tuple") (by rfl) B.tuple (by decide +kernel) rfl) pa_nil))) pa_nil)))) (pss_cons (ps_if (PW.pt (pw_or (pt_cmpR op_ne (pe_callB (cIsi (K := K)) (by rfl) B.isinstance (by decide +kernel) (pa_cons (pv 0) (pa_cons (pe_bltn (v := .ty "list") (by rfl) B.list (by decide +kernel) rfl) pa_nil))) (pe_callB (cIsi (K := K)) (by rfl) B.isinstance (by decide +kernel) (pa_cons (pv 1) (pa_cons (pe_bltn (v := .ty "list") (by rfl) B.list (by decide +kernel) rfl) pa_nil))) (nomark _)) (pw_or1 (pt_cmpR op_ne (pe_callB (cIsi (K := K)) (by rfl) B.isinstance (by decide +kernel) (pa_cons (pv 0) (pa_cons (pe_bltn (v := .ty "tuple") (by rfl) B.tuple (by decide +kernel) rfl) pa_nil))) (pe_callB (cIsi (K := K)) (by rfl) B.isinstance (by decide +kernel) (pa_cons (pv 1) (pa_cons (pe_bltn (v := .ty "tuple") (by rfl) B.tuple (by decide +kernel) rfl) pa_nil))) (nomark _))))) (pss_one (ps_ret pe_bl)) pss_nil)
      (pss_one (ps_ret (pe_and (pe_cmpR op_eq (pe_callB (cLen (K := K)) (by rfl) B.len PySem.boot_len (pa_cons (pv 0) pa_nil)) (pe_callB (cLen (K := K)) (by rfl) B.len PySem.boot_len (pa_cons (pv 1) pa_nil)) (nomark _)) (pe_one (pe_callB (cAll (K := K) rfl) (by rfl) B.all (by decide +kernel) (pa_cons (pe_lc (own := [("_law_mine", 2), ("_law_its", 3)]) (g := (gTup K 2 (gCons (gName 2) (gCons (gName 3) gNil)))) (tt := tYes) rfl sc_l_same.nd (piZip (K := K) (by rfl) B.zip (pa_cons (pv 0) (pa_cons (pv 1) pa_nil))) (blkOk_by (N := ["_law_got", "_law_due", "_law_mine", "_law_its"]) (sc := defScope s_l_same) (by decide +kernel)) (fun _ _ _ _ _ => (pgTup (K := K) rfl (pgs_cons (pgN (i := 2) sc_l_same.nd rfl (by first | exact Or.inl rfl | exact Or.inr rfl) (by first | exact Or.inl rfl | exact Or.inr rfl)) (pgs_cons (pgN (i := 3) sc_l_same.nd rfl (by first | exact Or.inl rfl | exact Or.inr rfl) (by first | exact Or.inl rfl | exact Or.inr rfl)) pgs_nil)))) (fun _ _ _ _ _ => pts_nil) (fun _ _ _ _ _ => (pe_callC C_l_same hr (by rfl) (pa_cons (pv 2) (pa_cons (pv 3) pa_nil))))) pa_nil))))))) pss_nil)
      (pss_cons (ps_if (PW.pt (pw_or (pt_cmp (pc_isN (pv 1))) (pw_or1 (pt_val (pe_callB (cIsi2 (K := K)) (by rfl) B.isinstance (by decide +kernel) (pa_cons (pv 1) (pa_cons (pe_tup (pa_cons (pe_bltn (v := .ty "bool") (by rfl) B.bool (by decide +kernel) rfl) (pa_cons (pe_bltn (v := .ty "str") (by rfl) B.str (by decide +kernel) rfl) pa_nil))) pa_nil))))))) (pss_one (ps_ret (pe_and (pe_cmpR (opEqD (K := K) hr.units) (pv 0) (pv 1) (nomark _)) (pe_and (pe_cmpR op_eq (pe_callB (cIsi (K := K)) (by rfl) B.isinstance (by decide +kernel) (pa_cons (pv 0) (pa_cons (pe_bltn (v := .ty "bool") (by rfl) B.bool (by decide +kernel) rfl) pa_nil))) (pe_callB (cIsi (K := K)) (by rfl) B.isinstance (by decide +kernel) (pa_cons (pv 1) (pa_cons (pe_bltn (v := .ty "bool") (by rfl) B.bool (by decide +kernel) rfl) pa_nil))) (nomark _)) (pe_one (pe_cmpR op_eq (pe_cmp (pc_isN (pv 0))) (pe_cmp (pc_isN (pv 1))) (nomark _))))))) pss_nil)
      (pss_one (ps_ret (pe_and (pe_callB (cIsi (K := K)) (by rfl) B.isinstance (by decide +kernel) (pa_cons (pv 0) (pa_cons (pe_bltn (v := .ty "int") (by rfl) B.int (by decide +kernel) rfl) pa_nil))) (pe_and (pe_not (pe_callB (cIsi (K := K)) (by rfl) B.isinstance (by decide +kernel) (pa_cons (pv 0) (pa_cons (pe_bltn (v := .ty "bool") (by rfl) B.bool (by decide +kernel) rfl) pa_nil)))) (pe_one (pe_cmpR (opEqD (K := K) hr.units) (pv 0) (pv 1) (nomark _))))))))), fun ds0 P0 hd => ?_⟩
  obtain ⟨g, d, rfl, hg, h, rfl⟩ := hd
  have sg := hg.sh.ok (by omega)
  have sd := h.sh.ok (by omega)
  by_cases hat : isLst d = false ∧ isTup d = false
  · obtain ⟨a1, a2⟩ := hat
    refine sj_seq (sj_ifF (XT.is (xt_val (xd_isi2 (xd_var rfl) kit_list kit_tuple)) (by rw [a1, a2]; rfl)) (sj_next ?_))
    refine sj_seq (sj_if (XT.is (xt_or (xt_val (xd_isN (xd_var rfl))) fun _ => (xt_val (xd_isi2 (xd_var rfl) kit_bool kit_str))) rfl) (fun hb => sj_retD (xd_and (xd_op (xd_var rfl) (xd_var rfl) (rd_eqD sg sd)) fun _ => (xd_and (xd_op (xd_isi (xd_var rfl) kit_bool) (xd_isi (xd_var rfl) kit_bool) rd_eqB) fun _ => (xd_op (xd_isN (xd_var rfl)) (xd_isN (xd_var rfl)) rd_eqB))) ?_) (fun hb => sj_next (sj_retD (xd_and (xd_isi (xd_var rfl) kit_int) fun _ => (xd_and (xd_not (xd_isi (xd_var rfl) kit_bool)) fun _ => (xd_op (xd_var rfl) (xd_var rfl) (rd_eqD sg sd)))) ?_)))
    · cases d <;> first | exact Bool.noConfusion a1 | exact Bool.noConfusion a2 | (simp only [sameD, hb, if_true])
    · cases d <;> first | exact Bool.noConfusion a1 | exact Bool.noConfusion a2 | (simp only [sameD, hb, Bool.false_eq_true, if_false])
  cases d with
  | list ds =>
    refine sj_seq (sj_ifT (XT.is (xt_val (xd_isi2 (xd_var rfl) kit_list kit_tuple)) rfl) ?_)
    cases g with
    | list gs =>
      refine sj_seq (sj_ifF (XT.is (xt_or (xt_test (xd_op (xd_isi (xd_var rfl) kit_list) (xd_isi (xd_var rfl) kit_list) rd_neB)) fun _ => (xt_test (xd_op (xd_isi (xd_var rfl) kit_tuple) (xd_isi (xd_var rfl) kit_tuple) rd_neB))) rfl) (sj_next ?_))
      refine sj_retD (xd_and (xd_op (xd_cb (xad_cons (xd_var rfl) xad_nil) rc_lenL) (xd_cb (xad_cons (xd_var rfl) xad_nil) rc_lenL) rd_eqI) fun _ => (xd_cb (xad_cons (xd_lcMap (xs := gs.zip ds) (A := fun x => .tuple [x.1, x.2]) (js := [2, 3]) ((xid_zipL (xad_cons (xd_var rfl) (xad_cons (xd_var rfl) xad_nil))).is (zipD_id _ _)) (by simp) ?_ (fun x hx => xg_tup2) (fun x hx => (xc_l_same' (xad_cons (xd_var rfl) (xad_cons (xd_var rfl) xad_nil)) (hg.2 _ (List.of_mem_zip hx).1) (h.2 _ (List.of_mem_zip hx).2)))) xad_nil) rc_allE)) ?_
      · have := h.1
        simp
        omega
      · simp only [sameD]
    | tuple gs => exact sj_seq (sj_ifT (XT.is (xt_or (xt_test (xd_op (xd_isi (xd_var rfl) kit_list) (xd_isi (xd_var rfl) kit_list) rd_neB)) fun _ => (xt_test (xd_op (xd_isi (xd_var rfl) kit_tuple) (xd_isi (xd_var rfl) kit_tuple) rd_neB))) rfl) (sj_retD xd_bl (by simp only [sameD])))
    | none => exact sj_seq (sj_ifT (XT.is (xt_or (xt_test (xd_op (xd_isi (xd_var rfl) kit_list) (xd_isi (xd_var rfl) kit_list) rd_neB)) fun _ => (xt_test (xd_op (xd_isi (xd_var rfl) kit_tuple) (xd_isi (xd_var rfl) kit_tuple) rd_neB))) rfl) (sj_retD xd_bl (by simp only [sameD])))
    | bool b => exact sj_seq (sj_ifT (XT.is (xt_or (xt_test (xd_op (xd_isi (xd_var rfl) kit_list) (xd_isi (xd_var rfl) kit_list) rd_neB)) fun _ => (xt_test (xd_op (xd_isi (xd_var rfl) kit_tuple) (xd_isi (xd_var rfl) kit_tuple) rd_neB))) rfl) (sj_retD xd_bl (by simp only [sameD])))
    | int b => exact sj_seq (sj_ifT (XT.is (xt_or (xt_test (xd_op (xd_isi (xd_var rfl) kit_list) (xd_isi (xd_var rfl) kit_list) rd_neB)) fun _ => (xt_test (xd_op (xd_isi (xd_var rfl) kit_tuple) (xd_isi (xd_var rfl) kit_tuple) rd_neB))) rfl) (sj_retD xd_bl (by simp only [sameD])))
    | str b => exact sj_seq (sj_ifT (XT.is (xt_or (xt_test (xd_op (xd_isi (xd_var rfl) kit_list) (xd_isi (xd_var rfl) kit_list) rd_neB)) fun _ => (xt_test (xd_op (xd_isi (xd_var rfl) kit_tuple) (xd_isi (xd_var rfl) kit_tuple) rd_neB))) rfl) (sj_retD xd_bl (by simp only [sameD])))
    | dict b => exact hg.elim
  | tuple ds =>
    refine sj_seq (sj_ifT (XT.is (xt_val (xd_isi2 (xd_var rfl) kit_list kit_tuple)) rfl) ?_)
    cases g with
    | tuple gs =>
      refine sj_seq (sj_ifF (XT.is (xt_or (xt_test (xd_op (xd_isi (xd_var rfl) kit_list) (xd_isi (xd_var rfl) kit_list) rd_neB)) fun _ => (xt_test (xd_op (xd_isi (xd_var rfl) kit_tuple) (xd_isi (xd_var rfl) kit_tuple) rd_neB))) rfl) (sj_next ?_))
      refine sj_retD (xd_and (xd_op (xd_cb (xad_cons (xd_var rfl) xad_nil) rc_lenT) (xd_cb (xad_cons (xd_var rfl) xad_nil) rc_lenT) rd_eqI) fun _ => (xd_cb (xad_cons (xd_lcMap (xs := gs.zip ds) (A := fun x => .tuple [x.1, x.2]) (js := [2, 3]) ((xid_zipT (xad_cons (xd_var rfl) (xad_cons (xd_var rfl) xad_nil))).is (zipD_id _ _)) (by simp) ?_ (fun x hx => xg_tup2) (fun x hx => (xc_l_same' (xad_cons (xd_var rfl) (xad_cons (xd_var rfl) xad_nil)) (hg.2 _ (List.of_mem_zip hx).1) (h.2 _ (List.of_mem_zip hx).2)))) xad_nil) rc_allE)) ?_
      · have := h.1
        simp
        omega
      · simp only [sameD]
    | list gs => exact sj_seq (sj_ifT (XT.is (xt_or (xt_test (xd_op (xd_isi (xd_var rfl) kit_list) (xd_isi (xd_var rfl) kit_list) rd_neB)) fun _ => (xt_test (xd_op (xd_isi (xd_var rfl) kit_tuple) (xd_isi (xd_var rfl) kit_tuple) rd_neB))) rfl) (sj_retD xd_bl (by simp only [sameD])))
    | none => exact sj_seq (sj_ifT (XT.is (xt_or (xt_test (xd_op (xd_isi (xd_var rfl) kit_list) (xd_isi (xd_var rfl) kit_list) rd_neB)) fun _ => (xt_test (xd_op (xd_isi (xd_var rfl) kit_tuple) (xd_isi (xd_var rfl) kit_tuple) rd_neB))) rfl) (sj_retD xd_bl (by simp only [sameD])))
    | bool b => exact sj_seq (sj_ifT (XT.is (xt_or (xt_test (xd_op (xd_isi (xd_var rfl) kit_list) (xd_isi (xd_var rfl) kit_list) rd_neB)) fun _ => (xt_test (xd_op (xd_isi (xd_var rfl) kit_tuple) (xd_isi (xd_var rfl) kit_tuple) rd_neB))) rfl) (sj_retD xd_bl (by simp only [sameD])))
    | int b => exact sj_seq (sj_ifT (XT.is (xt_or (xt_test (xd_op (xd_isi (xd_var rfl) kit_list) (xd_isi (xd_var rfl) kit_list) rd_neB)) fun _ => (xt_test (xd_op (xd_isi (xd_var rfl) kit_tuple) (xd_isi (xd_var rfl) kit_tuple) rd_neB))) rfl) (sj_retD xd_bl (by simp only [sameD])))
    | str b => exact sj_seq (sj_ifT (XT.is (xt_or (xt_test (xd_op (xd_isi (xd_var rfl) kit_list) (xd_isi (xd_var rfl) kit_list) rd_neB)) fun _ => (xt_test (xd_op (xd_isi (xd_var rfl) kit_tuple) (xd_isi (xd_var rfl) kit_tuple) rd_neB))) rfl) (sj_retD xd_bl (by simp only [sameD])))
    | dict b => exact hg.elim
  | none => exact absurd ⟨rfl, rfl⟩ hat
  | bool b => exact absurd ⟨rfl, rfl⟩ hat
  | int b => exact absurd ⟨rfl, rfl⟩ hat
  | str b => exact absurd ⟨rfl, rfl⟩ hat
  | dict b => exact h.elim
theorem ok_l_same (D : Df K mg "_law_same" s_l_same) (B : Bi mg) : Call1 P w K mg base CX0 lv_l_same "_law_same" (sp_l_same K) := by
  have h0 : Call1 P w K mg base CX0 0 "_law_same" (SpD K (dom_l_same 0)) := (call_none (ps := ["_law_got", "_law_due"]) D (fun _ _ _ _ _ _ us hl => match us, hl with | [_, _], _ => rfl)).mono (Nat.le_refl _) fun vs H Q E ⟨ds, P, G, a, b, ⟨g, d, e, h, _⟩, c⟩ => h.elim
  have go : ∀ k, k ≤ 60 → Call1 P w K mg base CX0 k "_law_same" (SpD K (dom_l_same k)) := fun k => by
    induction k with
    | zero => exact fun _ => h0
    | succ k ih => exact fun hk => step_l_same D B k (by omega) (ih (by omega))
  exact go 8 (by decide)
end
end Dry

set_option Elab.async false
set_option linter.all false
set_option maxRecDepth 100000
set_option maxHeartbeats 4000000
namespace Dry
open PySem PySem.Spec PyProof.Rows L2 RZ
section
variable {P : Program} {w : World} {K : PySem.W.Frag} {mg : Str → Option Value} {base : Heap}
theorem sc_binding : FnScope ["keys", "lot", "_", "found"] ["keys", "lot"] (defScope s_binding) := ⟨rfl, rfl, rfl, by decide +kernel, rfl, by decide +kernel, by decide +kernel⟩
def dom_binding : List PyData → (PyData → Prop) → Prop → Prop := fun ds P Np => ∃ (p n : Nat) (ks : List Ky) (lot : List Int) (d e : PyData), ds = [d, e] ∧ KsOk p n ks ∧ LotOk n lot ∧ (tup d = keysD ks ∧ TOk 6 d) ∧ (tup e = rowD lot ∧ TOk 6 e) ∧ P = (fun z => bnds p ks lot ≠ [] ∧ z = rowsD ((bnds p ks lot).getD 0 [])) ∧ Np = (bnds p ks lot = [])
abbrev lv_binding : Nat := 12
theorem ok_binding {C : Addr} (D : Df K mg "binding" s_binding) (B : Bi mg) (NP : NpOk K mg C) (C_bindings_of : Call1 P w K mg base CX0 lv_bindings_of "bindings_of" (sp_bindings_of K)) :
    ∃ f fd, FnOk P w K mg base (L2.CX P w) lv_binding f fd ["keys", "lot"] (SpX K C dom_binding) ∧ mg "binding" = some (.ref f) ∧ PySem.W.keepIn K (.ref f) = true ∧ Binds K fd ["keys", "lot"] [] := by
  refine funX_ok (k := lv_binding - 1) (N := ["keys", "lot", "_", "found"]) (ps := ["keys", "lot"]) D sc_binding (fun ds0 P0 N0 hd => by obtain ⟨p, n, ks, lot, d, e, rfl, _⟩ := hd; rfl) (fun _ _ _ _ _ _ us hl => match us, hl with | [_, _], _ => rfl) fun f cdv A outer s H E hr => ⟨_,
    (pss_cons (ps_asg (g := (gTup K 2 (gCons (gName 2) (gCons (gName 3) gNil)))) (pe_callC C_bindings_of (hr.mono (by decide)) (by rfl) (pa_cons (pv 0) (pa_cons (pv 1) pa_nil))) (pgTup (K := K) rfl (pgs_cons (pgN (i := 2) sc_binding.nd rfl (by first | exact Or.inl rfl | exact Or.inr rfl) (by first | exact Or.inl rfl | exact Or.inr rfl)) (pgs_cons (pgN (i := 3) sc_binding.nd rfl (by first | exact Or.inl rfl | exact Or.inr rfl) (by first | exact Or.inl rfl | exact Or.inr rfl)) pgs_nil))))
      (pss_cons (ps_if (pt_cmpR (opEqD (K := K) hr.units) (pv 3) (pe_lst pa_nil) (nomark _)) (pss_one (ps_raise rfl (takes_of rfl rfl rfl rfl) (pmk_own00 PySem.F.excBase_ValueError NP.x NP.g NP.k (raises_own NP.b NP.t) rfl))) pss_nil)
      (pss_one (ps_ret (pe_ix (ixL (K := K)) (pv 3) pe_int (fun _ _ => rfl)))))), fun ds0 P0 N0 hd => ?_⟩
  obtain ⟨p, n, ks, lot, d, e, rfl, h1, h2, h3, h4, rfl, rfl⟩ := hd
  refine sjx_seq (SJ.x (sj_asgGD (xc_bindings_of (xad_cons (xd_var rfl) (xad_cons (xd_var rfl) xad_nil)) h1 h2 h3 h4) xg_tup2 ?_))
  refine sjx_seq (sjx_if (XT.is (xt_test (xd_op (xd_var rfl) (xd_lst xad_nil (by simp)) (rd_eqD ?_ ?_))) rfl) (fun hb => sjx_raise ?_) (fun hb => SJ.x (sj_next ?_)))
  · exact (sh_bnds _).ok
  · exact sh_nilL.ok
  · rw [eqv_nilL] at hb
    simpa using hb
  · rw [eqv_nilL] at hb
    have hne : bnds p ks lot ≠ [] := by simpa using hb
    refine SJ.x (sj_retD (xd_op (xd_var rfl) xd_int (rd_ixLC (enc := rowsD) 0 [] rfl ?_)) ⟨hne, rfl⟩)
    exact List.length_pos_iff.mpr hne
theorem sc_loud_binding : FnScope ["keys", "lot", "number", "found"] ["keys", "lot", "number"] (defScope s_loud_binding) := ⟨rfl, rfl, rfl, by decide +kernel, rfl, by decide +kernel, by decide +kernel⟩
def dom_loud_binding : List PyData → (PyData → Prop) → Prop → Prop := fun ds P Np => ∃ (p n j : Nat) (ks : List Ky) (lot : List Int) (d e : PyData), ds = [d, e, .int j] ∧ KsOk p n ks ∧ LotOk n lot ∧ (tup d = keysD ks ∧ TOk 6 d) ∧ (tup e = rowD lot ∧ TOk 6 e) ∧ j < ks.length ∧ P = (fun z => loud p ks lot j ≠ [] ∧ z = rowsD ((loud p ks lot j).getD 0 [])) ∧ Np = (loud p ks lot j = [])
abbrev lv_loud_binding : Nat := 13
theorem ok_loud_binding {C : Addr} (D : Df K mg "loud_binding" s_loud_binding) (B : Bi mg) (NP : NpOk K mg C) (C_loud_in : Call1 P w K mg base CX0 lv_loud_in "loud_in" (sp_loud_in K)) :
    ∃ f fd, FnOk P w K mg base (L2.CX P w) lv_loud_binding f fd ["keys", "lot", "number"] (SpX K C dom_loud_binding) ∧ mg "loud_binding" = some (.ref f) ∧ PySem.W.keepIn K (.ref f) = true ∧ Binds K fd ["keys", "lot", "number"] [] := by
  refine funX_ok (k := lv_loud_binding - 1) (N := ["keys", "lot", "number", "found"]) (ps := ["keys", "lot", "number"]) D sc_loud_binding (fun ds0 P0 N0 hd => by obtain ⟨p, n, j, ks, lot, d, e, rfl, _⟩ := hd; rfl) (fun _ _ _ _ _ _ us hl => match us, hl with | [_, _, _], _ => rfl) fun f cdv A outer s H E hr => ⟨_,
    (pss_cons (ps_set (i := 3) sc_loud_binding.nd rfl (by first | exact Or.inl rfl | exact Or.inr rfl) (pe_callC C_loud_in (hr.mono (by decide)) (by rfl) (pa_cons (pv 0) (pa_cons (pv 1) (pa_cons (pv 2) pa_nil)))) (hf := (by first | exact Or.inl rfl | exact Or.inr rfl)))
      (pss_cons (ps_if (pt_cmpR (opEqD (K := K) hr.units) (pv 3) (pe_lst pa_nil) (nomark _)) (pss_one (ps_raise rfl (takes_of rfl rfl rfl rfl) (pmk_own00 PySem.F.excBase_ValueError NP.x NP.g NP.k (raises_own NP.b NP.t) rfl))) pss_nil)
      (pss_one (ps_ret (pe_ix (ixL (K := K)) (pv 3) pe_int (fun _ _ => rfl)))))), fun ds0 P0 N0 hd => ?_⟩
  obtain ⟨p, n, j, ks, lot, d, e, rfl, h1, h2, h3, h4, h5, rfl, rfl⟩ := hd
  refine sjx_seq (SJ.x (sj_asgD (xc_loud_in (xad_cons (xd_var rfl) (xad_cons (xd_var rfl) (xad_cons (xd_var rfl) xad_nil))) h1 h2 h3 h4 h5) ?_))
  refine sjx_seq (sjx_if (XT.is (xt_test (xd_op (xd_var rfl) (xd_lst xad_nil (by simp)) (rd_eqD ?_ ?_))) rfl) (fun hb => sjx_raise ?_) (fun hb => SJ.x (sj_next ?_)))
  · exact (sh_bnds _).ok
  · exact sh_nilL.ok
  · rw [eqv_nilL] at hb
    simpa using hb
  · rw [eqv_nilL] at hb
    have hne : loud p ks lot j ≠ [] := by simpa using hb
    refine SJ.x (sj_retD (xd_op (xd_var rfl) xd_int (rd_ixLC (enc := rowsD) 0 [] rfl ?_)) ⟨hne, rfl⟩)
    exact List.length_pos_iff.mpr hne
theorem sc_l_heard : FnScope ["_law_way_so", "_law_keys_so", "_law_lot_so", "_law_number_so"] ["_law_way_so", "_law_keys_so", "_law_lot_so", "_law_number_so"] (defScope s_l_heard) := ⟨rfl, rfl, rfl, by decide +kernel, rfl, by decide +kernel, by decide +kernel⟩
abbrev lv_l_heard : Nat := lv_loud_binding + 2
def paperD : PyData := .list [.str "paper"]
/-- _law_heard of a way (at fB) that raises NoPaper alone -/
def SpH (K : PySem.W.Frag) (fB : Addr) (dom : List PyData → (PyData → Prop) → Prop) : Sp := fun vs H Q _ =>
  ∃ (ws : List V) (ds : List PyData) (P : PyData → Prop) (G : Hp), vs = .ref fB :: ws ∧ Ex G H ∧ RpAll K G ws ds ∧ dom ds P ∧ ∀ v d G' H', New G H G' H' → Rp K G' v d → P d → Q v H'
def dom_heard2 (dom : List PyData → (PyData → Prop) → Prop → Prop) : List PyData → (PyData → Prop) → Prop := fun ds P => ∃ (d e : PyData) (P0 : PyData → Prop) (N0 : Prop), ds = [d, e, .none] ∧ dom [d, e] P0 N0 ∧ P = fun z => P0 z ∨ (N0 ∧ z = paperD)
def dom_heard3 (dom : List PyData → (PyData → Prop) → Prop → Prop) : List PyData → (PyData → Prop) → Prop := fun ds P => ∃ (d e f : PyData) (P0 : PyData → Prop) (N0 : Prop), ds = [d, e, f] ∧ isN f = false ∧ dom [d, e, f] P0 N0 ∧ P = fun z => P0 z ∨ (N0 ∧ z = paperD)
def tHeard (K : PySem.W.Frag) (C : Addr) (tc : WX → TE) : TS := fun D σ H => tRet (tc (wOnly K (.ref C) (fun _ _ _ => tRet (tLst (tCons (tC (.str "paper")) tNil))) (fun _ _ _ _ => False) D)) D σ H
theorem New.refl (G H : Hp) (h : Ex G H) : New G H G H := ⟨Ex.refl _, h, Ex.refl _, fun _ _ e => e⟩
theorem New.upd {G H G' H' : Hp} (t : New G H G' H') {p : Addr} {o : HO} (hp : H' p = none) : New G H (upd G' p o) (upd H' p o) := by
  have gp : G' p = none := t.ex.free hp
  refine ⟨t.gg.trans (Ex.new gp), fun a u e => ?_, t.hh.trans (Ex.new hp), fun q h e => ?_⟩
  · by_cases ha : a = p
    · subst ha
      rw [upd_same] at e ⊢
      exact e
    · rw [upd_ne ha] at e ⊢
      exact t.ex a u e
  · rw [upd_ne (fun z => (t.hh.live h) (by rw [z]; exact hp))]
    exact t.nw q h e
theorem ok_l_heard2 {C fB : Addr} {fd : FuncData} {j : Nat} {ps : List Str} {dom : List PyData → (PyData → Prop) → Prop → Prop} (D : Df K mg "_law_heard" s_l_heard) (B : Bi mg) (NP : NpOk K mg C)
    (FB : FnOk P w K mg base (L2.CX P w) j fB fd ps (SpX K C dom)) (kB : PySem.W.keepIn K (.ref fB) = true) (bB : Binds K fd ps []) (hj : j < lv_l_heard) : Call1 P w K mg base CX0 lv_l_heard "_law_heard" (SpH K fB (dom_heard2 dom)) := by
  obtain ⟨f, fd', F, hm⟩ := D
  have hbn : ∀ (kV doc pm : Value) (an : Option Addr) (cdv ct : Value) (us : List Value), us.length = (["_law_way_so", "_law_keys_so", "_law_lot_so", "_law_number_so"] : List Str).length → bindArgs (PySem.W.fnOf "_law_heard" "_law_heard" (defArgs s_l_heard) (defBody s_l_heard) (defScope s_l_heard) .none kV doc pm an cdv ct) ⟨us, []⟩ = pure ((["_law_way_so", "_law_keys_so", "_law_lot_so", "_law_number_so"] : List Str).zip us) := fun _ _ _ _ _ _ us hl => match us, hl with | [_, _, _, _], _ => rfl
  refine ⟨f, fd', _, F.ok (k := lv_l_heard - 1) sc_l_heard (fun vs H Q E h => ?_) (fun cdv A outer s H vs Q E hr h => ⟨tHeard K C (fun W => tIf (tB (tIsN (tVar 3))) (tCallLS 0 fB (SpX K C dom) (WE W) (tCons (tVar 1) (tCons (tVar 2) tNil))) (fun _ _ _ => False)), ?_, ?_⟩), hm, F.kp, F.bindsN hbn⟩
  · obtain ⟨ws, ds, P, G, rfl, _, r, ⟨d, e, P0, N0, rfl, _⟩, _⟩ := h
    rw [List.length_cons, dpa_len r]
    rfl
  · exact PSs.nox (pss_one (ps_try_only (tb := fun W => tRet (tIf (tB (tIsN (tVar 3))) (tCallLS 0 fB (SpX K C dom) (WE W) (tCons (tVar 1) (tCons (tVar 2) tNil))) (fun _ _ _ => False))) (ts := fun _ _ _ => tRet (tLst (tCons (tC (.str "paper")) tNil))) (Wout := fun _ _ _ _ => False) rfl rfl ⟨rfl, by decide, Or.inl NP.g⟩ takes0
      (fun W pn xe tk _ => pss_one (ps_ret (pe_ifExp (pt_cmp (pc_isN (pv 3))) (pe_callLS FB (hr.mono (by omega)) rfl (by first | exact Or.inl rfl | exact Or.inr rfl) kB bB (fun σ => passAt tk σ) (pa_cons (pv 1) (pa_cons (pv 2) pa_nil))) pe_never)))
      (fun a oe cls d pn hz hf => pss_one (ps_ret (pe_lst (pa_cons pe_str pa_nil))))))
  · obtain ⟨ws, ds, P, G, rfl, hx, r, ⟨d, e, P0, N0, rfl, hd, rfl⟩, q⟩ := h
    cases r with
    | cons r1 r =>
      cases r with
      | cons r2 r =>
        cases r with
        | cons r3 r =>
          cases r
          cases r3
          rename_i v1 v2
          refine ⟨_, rfl, _, rfl, ?_⟩
          show tCallLS 0 fB (SpX K C dom) _ _ _ _ _
          refine ⟨rfl, _, rfl, _, rfl, [d, e], P0, N0, G, hx, .cons r1 (.cons r2 .nil), hd, fun v z G' H' t rz pz => q v z G' H' t rz (.inl pz), fun hN G' H' t => ⟨true, NP.e, fun _ a ha => ?_, fun z => nomatch z⟩⟩
          refine ⟨by show 1 ≤ sizeLine; decide, fun p hp => ?_⟩
          exact q _ _ _ _ (t.upd hp) (.lst upd_same (.cons (.str _) .nil)) (.inr ⟨hN, rfl⟩)
theorem ok_l_heard3 {C fB : Addr} {fd : FuncData} {j : Nat} {ps : List Str} {dom : List PyData → (PyData → Prop) → Prop → Prop} (D : Df K mg "_law_heard" s_l_heard) (B : Bi mg) (NP : NpOk K mg C)
    (FB : FnOk P w K mg base (L2.CX P w) j fB fd ps (SpX K C dom)) (kB : PySem.W.keepIn K (.ref fB) = true) (bB : Binds K fd ps []) (hj : j < lv_l_heard) : Call1 P w K mg base CX0 lv_l_heard "_law_heard" (SpH K fB (dom_heard3 dom)) := by
  obtain ⟨f, fd', F, hm⟩ := D
  have hbn : ∀ (kV doc pm : Value) (an : Option Addr) (cdv ct : Value) (us : List Value), us.length = (["_law_way_so", "_law_keys_so", "_law_lot_so", "_law_number_so"] : List Str).length → bindArgs (PySem.W.fnOf "_law_heard" "_law_heard" (defArgs s_l_heard) (defBody s_l_heard) (defScope s_l_heard) .none kV doc pm an cdv ct) ⟨us, []⟩ = pure ((["_law_way_so", "_law_keys_so", "_law_lot_so", "_law_number_so"] : List Str).zip us) := fun _ _ _ _ _ _ us hl => match us, hl with | [_, _, _, _], _ => rfl
  refine ⟨f, fd', _, F.ok (k := lv_l_heard - 1) sc_l_heard (fun vs H Q E h => ?_) (fun cdv A outer s H vs Q E hr h => ⟨tHeard K C (fun W => tIf (tB (tIsN (tVar 3))) (fun _ _ _ => False) (tCallLS 0 fB (SpX K C dom) (WE W) (tCons (tVar 1) (tCons (tVar 2) (tCons (tVar 3) tNil))))), ?_, ?_⟩), hm, F.kp, F.bindsN hbn⟩
  · obtain ⟨ws, ds, P, G, rfl, _, r, ⟨d, e, f, P0, N0, rfl, _⟩, _⟩ := h
    rw [List.length_cons, dpa_len r]
    rfl
  · exact PSs.nox (pss_one (ps_try_only (tb := fun W => tRet (tIf (tB (tIsN (tVar 3))) (fun _ _ _ => False) (tCallLS 0 fB (SpX K C dom) (WE W) (tCons (tVar 1) (tCons (tVar 2) (tCons (tVar 3) tNil)))))) (ts := fun _ _ _ => tRet (tLst (tCons (tC (.str "paper")) tNil))) (Wout := fun _ _ _ _ => False) rfl rfl ⟨rfl, by decide, Or.inl NP.g⟩ takes0
      (fun W pn xe tk _ => pss_one (ps_ret (pe_ifExp (pt_cmp (pc_isN (pv 3))) pe_never (pe_callLS FB (hr.mono (by omega)) rfl (by first | exact Or.inl rfl | exact Or.inr rfl) kB bB (fun σ => passAt tk σ) (pa_cons (pv 1) (pa_cons (pv 2) (pa_cons (pv 3) pa_nil)))))))
      (fun a oe cls d pn hz hf => pss_one (ps_ret (pe_lst (pa_cons pe_str pa_nil))))))
  · obtain ⟨ws, ds, P, G, rfl, hx, r, ⟨d, e, f', P0, N0, rfl, hn, hd, rfl⟩, q⟩ := h
    cases r with
    | cons r1 r =>
      cases r with
      | cons r2 r =>
        cases r with
        | cons r3 r =>
          cases r
          rename_i v1 v2 v3
          have e3 : decide (v3 = .non) = false := by rw [isN_rel r3, hn]
          refine ⟨_, rfl, _, rfl, ?_⟩
          rw [e3]
          show tCallLS 0 fB (SpX K C dom) _ _ _ _ _
          refine ⟨rfl, _, rfl, _, rfl, _, rfl, [d, e, f'], P0, N0, G, hx, .cons r1 (.cons r2 (.cons r3 .nil)), hd, fun v z G' H' t rz pz => q v z G' H' t rz (.inl pz), fun hN G' H' t => ⟨true, NP.e, fun _ a ha => ?_, fun z => nomatch z⟩⟩
          refine ⟨by show 1 ≤ sizeLine; decide, fun p hp => ?_⟩
          exact q _ _ _ _ (t.upd hp) (.lst upd_same (.cons (.str _) .nil)) (.inr ⟨hN, rfl⟩)
end
end Dry

set_option Elab.async false
set_option linter.all false
set_option maxRecDepth 100000
set_option maxHeartbeats 4000000
namespace Dry
open PySem PySem.Spec PyProof.Rows L2 RZ
section
variable {P : Program} {w : World} {K : PySem.W.Frag} {mg : Str → Option Value} {base : Heap}
theorem box_ix0 {x y z : V} : atI [x, y, z] 0 = some x := rfl
theorem box_ix1 {x y z : V} : atI [x, y, z] 1 = some y := rfl
theorem box_ix2 {x y z : V} : atI [x, y, z] 2 = some z := rfl
theorem ifs_t {b : Bool} {p q : Prop} (h : b = true) (hp : p) : if b = true then p else q := by rw [if_pos h]; exact hp
theorem ifs_f {b : Bool} {p q : Prop} (h : b = false) (hq : q) : if b = true then p else q := by rw [if_neg (by rw [h]; exact Bool.false_ne_true)]; exact hq
/-- a box is changed -/
theorem box_rr {bx : Option Addr} {δ : List Sl} {σ : L2.St} {n m : Nat} {G H : Hp} {a : Addr} {x y z : Int} (En : EnvD K bx n δ σ G H) (ha : bx = some a) (h1 : 0 ≤ x) (h2 : 0 ≤ y) (h3 : y < 2 ^ 62) (h4 : 0 ≤ z) (h5 : z ≤ m) :
    Rr bx m δ σ G H G (upd H a (.lst [.int x, .int y, .int z])) := by
  have ga := En.bf a ha
  refine ⟨Ex.refl _, fun b u e => ?_, fun q o hb _ e => ?_, fun q _ e _ => e, fun b hb => ?_⟩
  · rw [upd_ne (fun w => by rw [w, ga] at e; cases e)]
    exact En.ex b u e
  · rw [upd_ne (fun w => hb (by rw [w]; exact ha))]
    exact e
  · rw [ha] at hb
    cases hb
    exact ⟨x, y, z, upd_same, h1, h2, h3, h4, h5⟩
theorem upd_upd {H : Hp} {a : Addr} {o o' : HO} : upd (upd H a o) a o' = upd H a o' := by
  funext q
  by_cases h : q = a
  · rw [h, upd_same, upd_same]
  · rw [upd_ne h, upd_ne h, upd_ne h]
theorem sc_l_take : FnScope ["_law_tin", "_law_below_so", "_law_once_so", "_law_wide_so", "_law_twice_so", "_law_drawn"] ["_law_tin", "_law_below_so"] (defScope s_l_take) := ⟨rfl, rfl, rfl, by decide +kernel, rfl, by decide +kernel, by decide +kernel⟩
abbrev lv_l_take : Nat := 1
def dom_l_take : List PyData → Nat → (PyData → Prop) → Prop := fun ds0 c0 P0 => ∃ (m : Nat), ds0 = [.int m] ∧ (0 < m ∧ m ≤ 1000000) ∧ c0 = 1 ∧ P0 = (fun z => ∃ i : Nat, i < m ∧ z = .int (i : Int))
abbrev sp_l_take (K : PySem.W.Frag) : Sp := SpB K dom_l_take
theorem xc_l_take {K : PySem.W.Frag} {tr : TA} {δ : List Sl} {nn ii : Nat} {m : Nat} (hi : δ[ii]? = some .box) (h0 : XAD K tr δ [.int m]) (h1 : 0 < m ∧ m ≤ 1000000) (hc : nn + (1) ≤ 2 ^ 50) : XB K (tCall (sp_l_take K) [] E0 (tCons (tVar ii) tr)) δ nn (nn + (1)) (fun z => ∃ i : Nat, i < m ∧ z = .int (i : Int)) := xb_callB hi (h0 nn) (fun es e => by rw [e]; exact ⟨_, rfl, h1, rfl, rfl⟩) hc
theorem ok_l_take (D : Df K mg "_law_take" s_l_take) (B : Bi mg) : Call1 P w K mg base CX0 lv_l_take "_law_take" (sp_l_take K) := by
  refine fun_okB (k := 0) (N := ["_law_tin", "_law_below_so", "_law_once_so", "_law_wide_so", "_law_twice_so", "_law_drawn"]) (ps := ["_law_tin", "_law_below_so"]) D sc_l_take (by simp) (fun ds0 c0 P0 hd => by obtain ⟨m, rfl, h1, rfl, rfl⟩ := hd; rfl) (fun _ _ _ _ _ _ us hl => match us, hl with | [_, _], _ => rfl) fun f cdv A outer s H E hr => ⟨_, 
    (pss_cons (ps_if (pt_cmpR op_gt (pe_ix (ixL (K := K)) (pv 0) pe_int (fun _ _ => rfl)) pe_int (nomark _)) (pss_cons (ps_set (i := 5) sc_l_take.nd rfl (by first | exact Or.inl rfl | exact Or.inr rfl) (pe_op op_mod (pe_callTy call_int1 (by rfl) B.int (by decide +kernel) (pa_cons (pe_ix (ixL (K := K)) (pv 0) pe_int (fun _ _ => rfl)) pa_nil)) (pv 1)) (hf := (by first | exact Or.inl rfl | exact Or.inr rfl)))
      (pss_cons (ps_asg (pe_op op_fdiv (pe_ix (ixL (K := K)) (pv 0) pe_int (fun _ _ => rfl)) (pv 1)) (pg_sub (pv 0) pe_int set_list))
      (pss_one (ps_ret (pv 5))))) pss_nil)
      (pss_cons (ps_asg (pe_op op_add (pe_ix (ixL (K := K)) (pv 0) pe_int (fun _ _ => rfl)) pe_int) (pg_sub (pv 0) pe_int set_list))
      (pss_cons (ps_set (i := 2) sc_l_take.nd rfl (by first | exact Or.inl rfl | exact Or.inr rfl) (pe_op op_mod (pe_callTy call_int1 (by rfl) B.int (by decide +kernel) (pa_cons (pe_op op_mul (pe_op op_add (pe_ix (ixL (K := K)) (pv 0) pe_int (fun _ _ => rfl)) (pe_op op_mul pe_int (pe_ix (ixL (K := K)) (pv 0) pe_int (fun _ _ => rfl)))) (pe_op op_add pe_int (pe_ix (ixL (K := K)) (pv 0) pe_int (fun _ _ => rfl)))) pa_nil)) pe_int) (hf := (by first | exact Or.inl rfl | exact Or.inr rfl)))
      (pss_cons (ps_set (i := 3) sc_l_take.nd rfl (by first | exact Or.inl rfl | exact Or.inr rfl) (pe_op op_add (pe_op op_mod (pe_callTy call_int1 (by rfl) B.int (by decide +kernel) (pa_cons (pv 2) pa_nil)) pe_int) pe_int) (hf := (by first | exact Or.inl rfl | exact Or.inr rfl)))
      (pss_cons (ps_set (i := 4) sc_l_take.nd rfl (by first | exact Or.inl rfl | exact Or.inr rfl) (pe_op op_mod (pe_callTy call_int1 (by rfl) B.int (by decide +kernel) (pa_cons (pe_op op_mul (pe_op op_add (pe_op op_add (pv 2) (pe_ix (ixL (K := K)) (pv 0) pe_int (fun _ _ => rfl))) (pe_op op_fdiv (pe_ix (ixL (K := K)) (pv 0) pe_int (fun _ _ => rfl)) pe_int)) (pv 3)) pa_nil)) pe_int) (hf := (by first | exact Or.inl rfl | exact Or.inr rfl)))
      (pss_one (ps_ret (pe_op op_mod (pe_callTy call_int1 (by rfl) B.int (by decide +kernel) (pa_cons (pe_op op_fdiv (pe_op op_mod (pe_callTy call_int1 (by rfl) B.int (by decide +kernel) (pa_cons (pe_op op_add (pe_op op_mul (pv 4) pe_int) (pv 2)) pa_nil)) pe_int) pe_int) pa_nil)) (pv 1))))))))), fun ds0 c0 P0 n hd hn => ?_⟩
  obtain ⟨m, rfl, h1, rfl, rfl⟩ := hd
  intro bx σ G H En D k1 k2 k3 k4
  obtain ⟨a, ha, hs0⟩ := En.ok 0 .box rfl
  obtain ⟨v, hs1, rv⟩ := En.ok 1 (.val (.int m)) rfl
  cases rv
  obtain ⟨x, y, z, hH, hx, hy, hy2, hz, hz2⟩ := En.box a ha
  have hlen : σ.length = 6 := En.len
  have m0 : (0 : Int) < (m : Int) := by omega
  have fin : ∀ {t i : Int} {x' z' : Int}, i = t % (m : Int) → 0 ≤ x' → 0 ≤ z' → z' ≤ (n + 1 : Nat) → D.rt (.int i) (upd H a (.lst [.int x', .int y, .int z'])) := fun {t i x' z'} e h1' h2' h3' => by
    have e1 := Int.emod_nonneg t (show (m : Int) ≠ 0 by omega)
    have e2 := Int.emod_lt_of_pos t m0
    refine k2 (.int i) (n + 1) (.int i) G _ (box_rr En ha h1' hy hy2 h2' h3') (.int _) ⟨Nat.le_refl _, i.toNat, by omega, ?_⟩
    rw [show ((i.toNat : Nat) : Int) = i by omega]
  have r0 : RI (tOp (rIxL K) (tVar 0) (tC (.int 0))) σ H x := ri_ix hs0 hH ri_c box_ix0
  show (tOp (rI0 fun i j => .bl (decide (j < i))) (tOp (rIxL K) (tVar 0) (tC (.int 0))) (tC (.int 0))) σ H _
  refine r0 _ ⟨x, 0, rfl, rfl, decide (0 < x), rfl, ?_⟩
  by_cases hx0 : 0 < x
  · refine ifs_t (decide_eq_true hx0) ?_
    refine ts_set (ri_C (ri_int r0) (ri_var hs1) m0) ?_
    have hs0' : (σ.set 5 (some (.int (x % m))))[0]? = some (some (.ref a)) := by rw [List.getElem?_set_ne (by decide)]; exact hs0
    have hs1' : (σ.set 5 (some (.int (x % m))))[1]? = some (some (.int (m : Int))) := by rw [List.getElem?_set_ne (by decide)]; exact hs1
    refine ts_put (k := 0) (ri_C (ri_ix hs0' hH ri_c box_ix0) (ri_var hs1') ⟨m0, by omega⟩) hs0' hH rfl ?_
    refine ⟨.int (x % m), by rw [List.getElem?_set_self (by omega)], ?_⟩
    exact fin rfl (Int.ediv_nonneg hx (by omega)) hz (by omega)
  · refine ifs_f (decide_eq_false hx0) ?_
    have hx1 : x = 0 := by omega
    subst hx1
    refine ts_put (k := 2) (ri_0 (ri_ix hs0 hH ri_c box_ix2) ri_c) hs0 hH rfl ?_
    show tSeq _ _ D σ (upd H a (.lst [.int 0, .int y, .int (z + 1)]))
    have hH1 : (upd H a (.lst [.int 0, .int y, .int (z + 1)])) a = some (.lst [.int 0, .int y, .int (z + 1)]) := upd_same
    generalize hHH : upd H a (.lst [.int 0, .int y, .int (z + 1)]) = H1 at hH1
    have r1 : ∀ {σ : L2.St}, σ[0]? = some (some (.ref a)) → RI (tOp (rIxL K) (tVar 0) (tC (.int 1))) σ H1 y := fun h => ri_ix h hH1 ri_c box_ix1
    have r2 : ∀ {σ : L2.St}, σ[0]? = some (some (.ref a)) → RI (tOp (rIxL K) (tVar 0) (tC (.int 2))) σ H1 (z + 1) := fun h => ri_ix h hH1 ri_c box_ix2
    refine ts_set (ri_C (C := fun _ j => 0 < j) (ri_int (ri_C (C := CMul) (ri_0 (r1 hs0) (ri_C (C := CMul) ri_c (r2 hs0) (.inl ⟨by omega, by omega⟩))) (ri_0 ri_c (r2 hs0)) (.inr ⟨by omega, by omega⟩))) ri_c (by decide)) ?_
    generalize honce : (y + 48271 * (z + 1)) * (39373 + (z + 1)) % 2147483647 = once
    have o1 : 0 ≤ once := by rw [← honce]; exact Int.emod_nonneg _ (by decide)
    have o2 : once < 2147483647 := by rw [← honce]; exact Int.emod_lt_of_pos _ (by decide)
    have a0 : (σ.set 2 (some (.int once)))[0]? = some (some (.ref a)) := by rw [List.getElem?_set_ne (by decide)]; exact hs0
    have a2 : (σ.set 2 (some (.int once)))[2]? = some (some (.int once)) := by rw [List.getElem?_set_self (by omega)]
    have a1 : (σ.set 2 (some (.int once)))[1]? = some (some (.int (m : Int))) := by rw [List.getElem?_set_ne (by decide)]; exact hs1
    have al : (σ.set 2 (some (.int once))).length = 6 := by rw [List.length_set]; exact hlen
    generalize σ.set 2 (some (.int once)) = σ2 at a0 a1 a2 al
    refine ts_set (ri_0 (ri_C (C := fun _ j => 0 < j) (ri_int (ri_var a2)) ri_c (by decide)) ri_c) ?_
    generalize hwide : once % 40009 + 7 = wide
    have w1 : 0 ≤ wide ∧ wide < 50000 := by
      have := Int.emod_nonneg once (show (40009 : Int) ≠ 0 by decide)
      have := Int.emod_lt_of_pos once (show (0 : Int) < 40009 by decide)
      omega
    have b0 : (σ2.set 3 (some (.int wide)))[0]? = some (some (.ref a)) := by rw [List.getElem?_set_ne (by decide)]; exact a0
    have b1 : (σ2.set 3 (some (.int wide)))[1]? = some (some (.int (m : Int))) := by rw [List.getElem?_set_ne (by decide)]; exact a1
    have b2 : (σ2.set 3 (some (.int wide)))[2]? = some (some (.int once)) := by rw [List.getElem?_set_ne (by decide)]; exact a2
    have b3 : (σ2.set 3 (some (.int wide)))[3]? = some (some (.int wide)) := by rw [List.getElem?_set_self (by omega)]
    have bl : (σ2.set 3 (some (.int wide))).length = 6 := by rw [List.length_set]; exact al
    generalize σ2.set 3 (some (.int wide)) = σ3 at b0 b1 b2 b3 bl
    refine ts_set (ri_C (C := fun _ j => 0 < j) (ri_int (ri_C (C := CMul) (ri_0 (ri_0 (ri_var b2) (r2 b0)) (ri_C (C := CDiv) (r1 b0) ri_c ⟨by decide, by decide⟩)) (ri_var b3) (.inr ⟨by omega, by omega⟩))) ri_c (by decide)) ?_
    generalize (once + (z + 1) + y / 1000003) * wide % 2147483629 = twice
    have c1 : (σ3.set 4 (some (.int twice)))[1]? = some (some (.int (m : Int))) := by rw [List.getElem?_set_ne (by decide)]; exact b1
    have c2 : (σ3.set 4 (some (.int twice)))[2]? = some (some (.int once)) := by rw [List.getElem?_set_ne (by decide)]; exact b2
    have c4 : (σ3.set 4 (some (.int twice)))[4]? = some (some (.int twice)) := by rw [List.getElem?_set_self (by omega)]
    generalize σ3.set 4 (some (.int twice)) = σ4 at c1 c2 c4
    refine (ri_C (C := fun _ j => 0 < j) (ri_int (ri_C (C := CDiv) (ri_C (C := fun _ j => 0 < j) (ri_int (ri_0 (ri_C (C := CMul) (ri_var c4) ri_c (.inr ⟨by decide, by decide⟩)) (ri_var c2))) ri_c (by decide)) ri_c ⟨by decide, by decide⟩)) (ri_var c1) m0) _ ?_
    rw [← hHH]
    exact fin rfl (by decide) (by omega) (by omega)
theorem sc_l_of : FnScope ["_law_tin", "_law_goods_so"] ["_law_tin", "_law_goods_so"] (defScope s_l_of) := ⟨rfl, rfl, rfl, by decide +kernel, rfl, by decide +kernel, by decide +kernel⟩
abbrev lv_l_of : Nat := 2
def dom_l_of : List PyData → Nat → (PyData → Prop) → Prop := fun ds0 c0 P0 => ∃ (ds : List PyData), ds0 = [.list ds] ∧ (ds ≠ [] ∧ ds.length ≤ 1000) ∧ c0 = 1 ∧ P0 = (fun z => z ∈ ds)
abbrev sp_l_of (K : PySem.W.Frag) : Sp := SpB K dom_l_of
theorem xc_l_of {K : PySem.W.Frag} {tr : TA} {δ : List Sl} {nn ii : Nat} {ds : List PyData} (hi : δ[ii]? = some .box) (h0 : XAD K tr δ [.list ds]) (h1 : ds ≠ [] ∧ ds.length ≤ 1000) (hc : nn + (1) ≤ 2 ^ 50) : XB K (tCall (sp_l_of K) [] E0 (tCons (tVar ii) tr)) δ nn (nn + (1)) (fun z => z ∈ ds) := xb_callB hi (h0 nn) (fun es e => by rw [e]; exact ⟨_, rfl, h1, rfl, rfl⟩) hc
theorem ok_l_of (D : Df K mg "_law_of" s_l_of) (B : Bi mg) (C_l_take : Call1 P w K mg base CX0 lv_l_take "_law_take" (sp_l_take K)) : Call1 P w K mg base CX0 lv_l_of "_law_of" (sp_l_of K) := by
  refine fun_okB (k := 1) (N := ["_law_tin", "_law_goods_so"]) (ps := ["_law_tin", "_law_goods_so"]) D sc_l_of (by simp) (fun ds0 c0 P0 hd => by obtain ⟨ds, rfl, h1, rfl, rfl⟩ := hd; rfl) (fun _ _ _ _ _ _ us hl => match us, hl with | [_, _], _ => rfl) fun f cdv A outer s H E hr => ⟨_, 
    (pss_one (ps_ret (pe_ix (ixL (K := K)) (pv 1) (pe_callC C_l_take (hr.mono (by decide)) (by rfl) (pa_cons (pv 0) (pa_cons (pe_callB (cLen (K := K)) (by rfl) B.len PySem.boot_len (pa_cons (pv 1) pa_nil)) pa_nil))) (fun _ _ => rfl)))), fun ds0 c0 P0 n hd hn => ?_⟩
  obtain ⟨ds, rfl, h1, rfl, rfl⟩ := hd
  have h0 : 0 < ds.length := List.length_pos_iff.mpr h1.1
  refine sj_ret (P := fun z => z ∈ ds) (xb_op (P := fun z => z = .list ds) (xd_var rfl _) (xc_l_take rfl (xad_cons (xd_cb (xad_cons (xd_var rfl) xad_nil) rc_lenL) xad_nil) ⟨h0, by omega⟩ hn) (fun d e hd he => ?_)) (fun d hd => ⟨Nat.le_refl _, hd⟩)
  subst hd
  obtain ⟨i, hi, rfl⟩ := he
  intro x' y' bx n' δ σ G H E r1 r2 Q q
  exact rd_ixL (atI_nat (getD_some hi .none)) x' y' bx n' δ σ G H E r1 r2 Q fun v f G' H' t r e => q v f G' H' t r (by
    rw [e]
    exact List.mem_of_getElem? (getD_some hi .none))
theorem sc_l_pick : FnScope ["_law_tin", "_law_goods_so", "_law_count_so", "_law_lap", "_law_pool_so", "_law_found"] ["_law_tin", "_law_goods_so", "_law_count_so"] (defScope s_l_pick) := ⟨rfl, rfl, rfl, by decide +kernel, rfl, by decide +kernel, by decide +kernel⟩
abbrev lv_l_pick : Nat := 2
def dom_l_pick : List PyData → Nat → (PyData → Prop) → Prop := fun ds0 c0 P0 => ∃ (ds : List PyData) (k : Nat), ds0 = [.list ds, .int k] ∧ (ds.length ≤ 10000) ∧ (k ≤ 100) ∧ c0 = 0 + k ∧ P0 = (fun z => ∃ es : List PyData, z = .list es ∧ es.length ≤ k ∧ ∀ e ∈ es, e ∈ ds)
abbrev sp_l_pick (K : PySem.W.Frag) : Sp := SpB K dom_l_pick
theorem xc_l_pick {K : PySem.W.Frag} {tr : TA} {δ : List Sl} {nn ii : Nat} {ds : List PyData} {k : Nat} (hi : δ[ii]? = some .box) (h0 : XAD K tr δ [.list ds, .int k]) (h1 : ds.length ≤ 10000) (h2 : k ≤ 100) (hc : nn + (0 + k) ≤ 2 ^ 50) : XB K (tCall (sp_l_pick K) [] E0 (tCons (tVar ii) tr)) δ nn (nn + (0 + k)) (fun z => ∃ es : List PyData, z = .list es ∧ es.length ≤ k ∧ ∀ e ∈ es, e ∈ ds) := xb_callB hi (h0 nn) (fun es e => by rw [e]; exact ⟨_, _, rfl, h1, h2, rfl, rfl⟩) hc
theorem ok_l_pick (D : Df K mg "_law_pick" s_l_pick) (B : Bi mg) (C_l_take : Call1 P w K mg base CX0 lv_l_take "_law_take" (sp_l_take K)) : Call1 P w K mg base CX0 lv_l_pick "_law_pick" (sp_l_pick K) := by
  refine fun_okB (k := 1) (N := ["_law_tin", "_law_goods_so", "_law_count_so", "_law_lap", "_law_pool_so", "_law_found"]) (ps := ["_law_tin", "_law_goods_so", "_law_count_so"]) D sc_l_pick (by simp) (fun ds0 c0 P0 hd => by obtain ⟨ds, k, rfl, h1, h2, rfl, rfl⟩ := hd; rfl) (fun _ _ _ _ _ _ us hl => match us, hl with | [_, _, _], _ => rfl) fun f cdv A outer s H E hr => ⟨_, 
    (pss_cons (ps_par (i := 4) (j := 5) rfl sc_l_pick.nd rfl rfl (by decide) rfl rfl (pa_cons (pe_callTy (cList (K := K)) (by rfl) B.list (by decide +kernel) (pa_cons (pv 1) pa_nil)) (pa_cons (pe_lst pa_nil) pa_nil)) (by rfl))
      (pss_cons (ps_for (g := (gName 3)) PassesOwn.never rfl (pi_range1 (by rfl) B.range (pa_cons (pe_callB (call_min2 rfl) (by rfl) B.min (by decide +kernel) (pa_cons (pe_callTy call_int1 (by rfl) B.int (by decide +kernel) (pa_cons (pv 2) pa_nil)) (pa_cons (pe_callB (cLen (K := K)) (by rfl) B.len PySem.boot_len (pa_cons (pv 4) pa_nil)) pa_nil))) pa_nil)) (pgN (i := 3) sc_l_pick.nd rfl (by first | exact Or.inl rfl | exact Or.inr rfl) (by first | exact Or.inl rfl | exact Or.inr rfl)) (pss_one (ps_expr (pe_bm PySem.F.plainAttrs_list PySem.F.slot_list_append PySem.F.type_list_append mt_append (pv 5) (pa_cons (pe_bm PySem.F.plainAttrs_list PySem.F.slot_list_pop PySem.F.type_list_pop mt_popAt (pv 4) (pa_cons (pe_callC C_l_take (hr.mono (by decide)) (by rfl) (pa_cons (pv 0) (pa_cons (pe_callB (cLen (K := K)) (by rfl) B.len PySem.boot_len (pa_cons (pv 4) pa_nil)) pa_nil))) pa_nil)) pa_nil)))))
      (pss_one (ps_ret (pv 5))))), fun ds0 c0 P0 n hd hn => ?_⟩
  obtain ⟨ds, k, rfl, h1, h2, rfl, rfl⟩ := hd
  have hmin : (if ((ds.length : Nat) : Int) < (k : Int) then ((ds.length : Nat) : Int) else (k : Int)) = ((min k ds.length : Nat) : Int) := by
    split <;> omega
  refine sj_seq (sj_par (xs_own (xn_cb (PL' := fun z => z = ds) (xad_cons (xd_var rfl) xad_nil _) (fun ds e => by rw [e]; exact rcn_listL))) (xs_own (xn_lst xa_nil (fun ds e => by rw [e]; simp))) fun s s' ⟨ds', e3, e4⟩ ⟨ds2, e1, e2⟩ => ?_)
  subst e1 e2 e3 e4
  refine sj_seq (sj_forT (xs := List.range (min k ds'.length)) (A := fun i : Nat => PyData.int (i : Int)) (xid_rangeN (xad_cons ((xd_cb (xad_cons (xd_cb (xad_cons (xd_var rfl) xad_nil) rc_intI) (xad_cons (xd_lenOwn rfl) xad_nil)) rc_min2).is (by rw [hmin])) xad_nil) (by omega))
    (fun i δ m => m ≤ n + i ∧ ∃ s3 ps fs, ps.length = ds'.length - i ∧ fs.length = i ∧ (∀ e ∈ ps, e ∈ ds') ∧ (∀ e ∈ fs, e ∈ ds') ∧ δ = [.box, .val (.list ds'), .val (.int k), s3, .own ps, .own fs]) ⟨Nat.le_refl _, .un, ds', [], rfl, rfl, fun _ h => h, fun _ h => by simp at h, rfl⟩ (fun i x δ' m hx iv => ?_) (fun δ' m iv => ?_))
  · obtain ⟨hm, s3, ps, fs, e1, e2, e3, e4, rfl⟩ := iv
    have hi : i < min k ds'.length := by
      have := (List.getElem?_eq_some_iff.mp hx).1
      simpa using this
    have hps : 0 < ps.length := by omega
    refine ⟨_, [3], xg_name, sj_appPop (i := 5) (j := 4) rfl rfl (by decide) ((xc_l_take (m := ps.length) rfl (xad_cons (xd_lenOwn rfl) xad_nil) ⟨hps, by omega⟩ (by omega))) (by omega) (by omega) fun kk hk => ⟨by omega, _, ps.eraseIdx kk, fs ++ [ps.getD kk .none], ?_, by simp [e2], ?_, ?_, rfl⟩⟩
    · rw [List.length_eraseIdx]
      split <;> omega
    · exact fun e he => e3 e (List.mem_of_mem_eraseIdx he)
    · intro e he
      rcases List.mem_append.mp he with he | he
      · exact e4 e he
      · simp only [List.mem_singleton] at he
        subst he
        exact e3 _ (List.mem_of_getElem? (getD_some hk .none))
  · obtain ⟨hm, s3, ps, fs, e1, e2, e3, e4, rfl⟩ := iv
    rw [List.length_range] at hm e2
    refine sj_freeze (i := 5) rfl (sj_retD (xd_var rfl) ⟨by omega, fs, rfl, by omega, e4⟩)
theorem sc_l_cells : FnScope ["_law_script", "_law_most_so", "_law_cells_so", "_law_k", "_law_cell_so", "_law_at_so"] ["_law_script", "_law_most_so"] (defScope s_l_cells) := ⟨rfl, rfl, rfl, by decide +kernel, rfl, by decide +kernel, by decide +kernel⟩
def dom_l_cells : List PyData → List PyData → (PyData → Prop) → Prop := fun ds es P => ∃ ns : List Int, ds = ns.map PyData.int ∧ es = [.int 1] ∧ ns.length ≤ 1000 ∧ P = fun z => ∃ cs : List Int, cs ≠ [] ∧ cs.length ≤ 1000 ∧ z = .list (cs.map PyData.int)
abbrev sp_l_cells (K : PySem.W.Frag) : Sp := SpC K dom_l_cells
abbrev lv_l_cells : Nat := 1
theorem xc_l_cells {K : PySem.W.Frag} {tr : TA} {δ : List Sl} {nn i : Nat} {ns : List Int} (hi : δ[i]? = some (.fz (ns.map PyData.int))) (h0 : XAD K tr δ [.int 1]) (h1 : ns.length ≤ 1000) : XB K (tCall (sp_l_cells K) [] E0 (tCons (tVar i) tr)) δ nn nn (fun z => ∃ cs : List Int, cs ≠ [] ∧ cs.length ≤ 1000 ∧ z = .list (cs.map PyData.int)) := xb_callC hi (h0 nn) fun es e => by rw [e]; exact ⟨ns, rfl, rfl, h1, rfl⟩
theorem ok_l_cells (D : Df K mg "_law_cells" s_l_cells) (B : Bi mg) : Call1 P w K mg base CX0 lv_l_cells "_law_cells" (sp_l_cells K) := by
  obtain ⟨f, fd, F, hm⟩ := D
  refine ⟨f, fd, ["_law_script", "_law_most_so"], fun_okC (k := 0) (N := ["_law_script", "_law_most_so", "_law_cells_so", "_law_k", "_law_cell_so", "_law_at_so"]) (ps := ["_law_script", "_law_most_so"]) F sc_l_cells (by simp) (fun ds es P hd => by obtain ⟨ns, rfl, rfl, _⟩ := hd; rfl) (fun f cdv A outer s H E hr => ⟨_,
    (pss_cons (ps_set (i := 2) sc_l_cells.nd rfl (by first | exact Or.inl rfl | exact Or.inr rfl) (pe_orT (pe_callTy (cList (K := K)) (by rfl) B.list (by decide +kernel) (pa_cons (pe_slice (slL (K := K)) (pv 0) po_none (po_some (pv 1))) pa_nil)) (pe_one (pe_lst (pa_cons pe_int pa_nil)))) (hf := (by first | exact Or.inl rfl | exact Or.inr rfl)))
      (pss_cons (ps_for (g := (gTup K 2 (gCons (gName 3) (gCons (gName 4) gNil)))) PassesOwn.never rfl (piEnumL (K := K) (by rfl) B.enumerate (pa_cons (pe_slice (slL (K := K)) (pv 0) (po_some (pv 1)) (po_some pe_int)) pa_nil)) (pgTup (K := K) rfl (pgs_cons (pgN (i := 3) sc_l_cells.nd rfl (by first | exact Or.inl rfl | exact Or.inr rfl) (by first | exact Or.inl rfl | exact Or.inr rfl)) (pgs_cons (pgN (i := 4) sc_l_cells.nd rfl (by first | exact Or.inl rfl | exact Or.inr rfl) (by first | exact Or.inl rfl | exact Or.inr rfl)) pgs_nil))) (pss_cons (ps_set (i := 5) sc_l_cells.nd rfl (by first | exact Or.inl rfl | exact Or.inr rfl) (pe_op op_mod (pe_callTy call_int1 (by rfl) B.int (by decide +kernel) (pa_cons (pv 3) pa_nil)) (pv 1)) (hf := (by first | exact Or.inl rfl | exact Or.inr rfl)))
      (pss_one (ps_asg (pe_op op_add (pe_ix (ixL (K := K)) (pv 2) (pv 5) (fun _ _ => rfl)) (pe_op op_mul (pv 4) (pe_op op_add (pv 3) pe_int))) (pg_sub (pv 2) (pv 5) set_list)))))
      (pss_one (ps_ret (pv 2))))), fun ds es P hd => ?_⟩), hm, F.kp, F.bindsN fun _ _ _ _ _ _ us hl => match us, hl with | [_, _], _ => rfl⟩
  obtain ⟨ns, rfl, rfl, h1, rfl⟩ := hd
  refine sj_seq (sj_asgN (PL := fun z => ∃ cs : List Int, cs ≠ [] ∧ cs.length ≤ 1000 ∧ z = cs.map PyData.int) ((xn_orT (xn_cb (xad_cons (XN.xd fun _ => xn_slFz rfl xo_none (xo_some (xd_var rfl))) xad_nil _) (fun ds e => by rw [e]; exact rcn_listL)) (xn_lst (xad_cons xd_int xad_nil _) (fun ds e => by rw [e]; simp))).imp (Nat.le_refl _) (fun z hz => ?_)) fun ds ⟨cs, c1, c2, e⟩ => ?_)
  · rcases hz with ⟨hz, e⟩ | e
    · refine ⟨ns.take 1, fun e' => hz ?_, by simp; omega, ?_⟩
      · rw [e, show (1 : Int) = ((1 : Nat) : Int) from rfl, cutP_map, cut_take, e']
        rfl
      · rw [e, show (1 : Int) = ((1 : Nat) : Int) from rfl, cutP_map, cut_take]
    · exact ⟨[0], by simp, by simp, by rw [e]; rfl⟩
  · subst e
    refine sj_seq (sj_forT (xs := ((ns.take 63).drop 1).zipIdx) (A := fun p => .tuple [.int (p.2 : Nat), .int p.1]) ((xid_enumL (xad_cons (XN.xd fun _ => xn_slFz rfl (xo_some (xd_var rfl)) (xo_some xd_int)) xad_nil)).is ?_) (fun i δ _ => ∃ cs s3 s4 s5, cs ≠ [] ∧ cs.length ≤ 1000 ∧ δ = [.fz (ns.map PyData.int), .val (.int 1), .own (cs.map PyData.int), s3, s4, s5]) ⟨cs, .un, .un, .un, c1, c2, rfl⟩ (fun i x δ' m hx iv => ?_) (fun δ' m iv => ?_))
    · rw [show (1 : Int) = ((1 : Nat) : Int) from rfl, show (63 : Int) = ((63 : Nat) : Int) from rfl, cutP_map, cut_mid, enD_map]
    · obtain ⟨cs, s3, s4, s5, c1, c2, rfl⟩ := iv
      have c0 : 0 < cs.length := List.length_pos_iff.mpr c1
      have hx2 : x.2 < 1000 := by
        have := List.mem_of_getElem? hx
        have := List.snd_lt_of_mem_zipIdx this
        simp at this
        omega
      refine ⟨_, [3, 4], xg_tup2, sj_seq (sj_asgD (d := .int 0) (XD.is (xd_op (xd_cb (xad_cons (xd_var rfl) xad_nil) rc_intI) (xd_var rfl) (rd_I (by decide))) (by rw [Int.emod_one])) ?_)⟩
      refine sj_setL (i := 2) (j := 0) (z := 0) rfl ((xd_op (xd_ixOwn (d := .int (cs.getD 0 0)) rfl (xd_var rfl) ?_) (xd_op (xd_var rfl) (xd_op (xd_var rfl) xd_int rd_I0) (rd_I ?_)) rd_I0) _) (xd_var rfl) ?_ fun d e => ?_
      · exact atI_map (atI_nat (j := 0) (getD_some c0 0))
      · exact .inr ⟨by omega, by omega⟩
      · exact ixN_nat (j := 0) (by rw [List.length_map]; exact c0)
      · subst e
        have hs : (cs.map PyData.int).set 0 (PyData.int (cs.getD 0 0 + x.1 * ((x.2 : Int) + 2))) = (cs.set 0 (cs.getD 0 0 + x.1 * ((x.2 : Int) + 2))).map PyData.int := List.map_set.symm
        rw [hs]
        exact ⟨cs.set 0 (cs.getD 0 0 + x.1 * ((x.2 : Int) + 2)), _, _, _, by simpa using c1, by simpa using c2, rfl⟩
    · obtain ⟨cs, s3, s4, s5, c1, c2, rfl⟩ := iv
      exact sj_freeze (i := 2) rfl (sj_retD (xd_var rfl) ⟨cs, c1, c2, rfl⟩)
end
end Dry

set_option Elab.async false
set_option linter.all false
set_option maxRecDepth 100000
set_option maxHeartbeats 4000000
namespace Dry
open PySem PySem.Spec PyProof.Rows L2 RZ
section
variable {P : Program} {w : World} {K : PySem.W.Frag} {mg : Str → Option Value} {base : Heap}
theorem hu1 {n c : Nat} (h : n + 64 < c) : n + 1 < c := by omega
/-! ### slots told one by one -/
inductive SlAll (K : PySem.W.Frag) (G : Hp) : List Sl → L2.St → Prop
  | nil : SlAll K G [] []
  | un {δ : List Sl} {σ : L2.St} {o : Option V} : SlAll K G δ σ → SlAll K G (.un :: δ) (o :: σ)
  | val {δ : List Sl} {σ : L2.St} {v : V} {d : PyData} : Rp K G v d → SlAll K G δ σ → SlAll K G (.val d :: δ) (some v :: σ)
theorem SlAll.len {G : Hp} {δ : List Sl} {σ : L2.St} (h : SlAll K G δ σ) : σ.length = δ.length := by
  induction h with
  | nil => rfl
  | un _ ih => simp [ih]
  | val _ _ ih => simp [ih]
theorem SlAll.get {G : Hp} {δ : List Sl} {σ : L2.St} (h : SlAll K G δ σ) : ∀ (i : Nat) (s : Sl), δ[i]? = some s → s = .un ∨ ∃ d v, s = .val d ∧ σ[i]? = some (some v) ∧ Rp K G v d := by
  induction h with
  | nil => intro i s h; simp at h
  | un _ ih =>
    intro i s h
    cases i with
    | zero => exact .inl (Option.some.inj h).symm
    | succ i => exact ih i s h
  | val r _ ih =>
    intro i s h
    cases i with
    | zero => exact .inr ⟨_, _, (Option.some.inj h).symm, rfl, r⟩
    | succ i => exact ih i s h
theorem env_all {n : Nat} {G H : Hp} {δ : List Sl} {σ : L2.St} (h : SlAll K G δ σ) (hx : Ex G H) : EnvD K none n δ σ G H := by
  refine ⟨hx, h.len, (fun _ z => nomatch z), (fun _ z => nomatch z), fun i s hs => ?_, fun i j ds es l h1 _ _ _ => ?_⟩
  · rcases h.get i s hs with rfl | ⟨d, v, rfl, e, r⟩
    · trivial
    · exact ⟨v, e, r⟩
  · rcases h.get i _ h1 with e | ⟨d, v, e, _⟩ <;> cases e
/-! ### what can be reached -/
def Rch (p m : Nat) (cols : List (List Int)) (pay : Nat → Int → Bool) : Nat → List Int → Prop
  | 0, r => r = List.replicate m 0
  | i + 1, r => ∃ (q : List Int) (rest : Nat), Rch p m cols pay i q ∧ rest < p ∧ pay i (rest : Int) = true ∧ r = rowPlus p q (rowTimes p (rest : Int) (cols.getD i []))
theorem rch_len {p m : Nat} {cols : List (List Int)} {pay : Nat → Int → Bool} (h : ∀ c ∈ cols, c.length = m) : ∀ {i : Nat} {r : List Int}, i ≤ cols.length → Rch p m cols pay i r → r.length = m
  | 0, r, _, e => by rw [show r = _ from e]; simp
  | i + 1, r, hi, ⟨q, rest, hq, _, _, e⟩ => by
    have hl := rch_len h (by omega) hq
    have hc := h _ (List.mem_of_getElem? (getD_some (rs := cols) (i := i) (by omega) []))
    rw [e, len_plus, hl]
    rw [hl, len_times, hc]
/-- the keys are the rows of R -/
structure DInv (R : List Int → Prop) (kvs : List (List L2.Key × V)) : Prop where
  nd : (kvs.map (·.1)).Nodup
  mem : ∀ k, k ∈ kvs.map (·.1) ↔ ∃ r, k = kOf r ∧ R r
  int : ∀ kv ∈ kvs, ∃ c : Int, kv.2 = .int c
theorem kOf_inj {a b : List Int} (h : kOf a = kOf b) : a = b := by
  have := congrArg (List.map (fun k : L2.Key => match k with | .inl i => i | .inr _ => 0)) h
  simpa [kOf, List.map_map, Function.comp_def] using this
theorem DInv.congr {R R' : List Int → Prop} {kvs : List (List L2.Key × V)} (h : DInv R kvs) (e : ∀ r, R r ↔ R' r) : DInv R' kvs := ⟨h.nd, fun k => (h.mem k).trans ⟨fun ⟨r, a, b⟩ => ⟨r, a, (e r).mp b⟩, fun ⟨r, a, b⟩ => ⟨r, a, (e r).mpr b⟩⟩, h.int⟩
theorem DInv.nil : DInv (fun _ => False) [] := ⟨List.nodup_nil, fun k => ⟨fun h => absurd h (by simp), fun ⟨_, _, h⟩ => h.elim⟩, fun _ h => absurd h (by simp)⟩
theorem map_repl {kvs : List (List L2.Key × V)} {k : List L2.Key} {v : V} : (kvs.map fun kv => if kv.1 = k then (kv.1, v) else kv).map (·.1) = kvs.map (·.1) := by
  rw [List.map_map]
  apply List.map_congr_left
  intro kv _
  show (if kv.1 = k then (kv.1, v) else kv).1 = kv.1
  split <;> rfl
theorem DInv.put {R : List Int → Prop} {kvs : List (List L2.Key × V)} {s : List Int} {c : Int} (h : DInv R kvs) : DInv (fun r => R r ∨ r = s) (putK kvs (kOf s) (.int c)) := by
  unfold putK
  split
  · rename_i hy
    obtain ⟨p, hp, hk⟩ := List.any_eq_true.mp hy
    have hk := of_decide_eq_true hk
    have hs : R s := by
      obtain ⟨r, e1, e2⟩ := (h.mem (kOf s)).mp (List.mem_map.mpr ⟨p, hp, hk⟩)
      rw [kOf_inj e1]
      exact e2
    refine ⟨by rw [map_repl]; exact h.nd, fun k => ?_, fun kv hkv => ?_⟩
    · rw [map_repl, h.mem]
      exact ⟨fun ⟨r, a, b⟩ => ⟨r, a, .inl b⟩, fun ⟨r, a, b⟩ => ⟨r, a, b.elim id fun e => by rw [e]; exact hs⟩⟩
    · obtain ⟨q, hq, rfl⟩ := List.mem_map.mp hkv
      by_cases e : q.1 = kOf s
      · rw [if_pos e]
        exact ⟨c, rfl⟩
      · rw [if_neg e]
        exact h.int q hq
  · rename_i hy
    have hn : ¬ kOf s ∈ kvs.map (·.1) := fun hm => by
      obtain ⟨p, hp, hk⟩ := List.mem_map.mp hm
      exact hy (List.any_eq_true.mpr ⟨p, hp, decide_eq_true hk⟩)
    refine ⟨by rw [List.map_append]; exact nd_snoc h.nd hn, fun k => ?_, fun kv hkv => ?_⟩
    · rw [List.map_append, List.mem_append, h.mem]
      constructor
      · rintro (⟨r, a, b⟩ | hk)
        · exact ⟨r, a, .inl b⟩
        · simp only [List.map_cons, List.map_nil, List.mem_singleton] at hk
          exact ⟨s, hk, .inr rfl⟩
      · rintro ⟨r, a, b | b⟩
        · exact .inl ⟨r, a, b⟩
        · exact .inr (by rw [a, b]; simp)
    · rcases List.mem_append.mp hkv with hk | hk
      · exact h.int kv hk
      · simp only [List.mem_singleton] at hk
        exact ⟨c, by rw [hk]⟩
theorem DInv.there {R : List Int → Prop} {kvs : List (List L2.Key × V)} {s : List Int} (h : DInv R kvs) (hs : R s) : DInv (fun r => R r ∨ r = s) kvs := h.congr fun r => ⟨.inl, fun z => z.elim id fun e => by rw [e]; exact hs⟩
theorem DInv.val {R : List Int → Prop} {kvs : List (List L2.Key × V)} {s : List Int} (h : DInv R kvs) : (valV kvs (kOf s) = none) ∨ (R s ∧ ∃ c : Int, valV kvs (kOf s) = some (.int c)) := by
  cases e : valV kvs (kOf s) with
  | none => exact .inl rfl
  | some v =>
    refine .inr ⟨?_, ?_⟩
    · obtain ⟨r, e1, e2⟩ := (h.mem _).mp (valV_in e)
      rw [kOf_inj e1]
      exact e2
    · unfold valV at e
      cases f : kvs.find? (fun kv => decide (kv.1 = kOf s)) with
      | none => rw [f] at e; cases e
      | some kv =>
        rw [f] at e
        obtain ⟨c, hc⟩ := h.int kv (List.mem_of_find?_eq_some f)
        cases e
        exact ⟨c, by show some kv.2 = _; rw [hc]⟩
theorem DInv.at {R : List Int → Prop} {kvs : List (List L2.Key × V)} {i : Nat} {k : List L2.Key} {v : V} (h : DInv R kvs) (e : kvs[i]? = some (k, v)) : ∃ r, k = kOf r ∧ R r := (h.mem k).mp (List.mem_map.mpr ⟨_, List.mem_of_getElem? e, rfl⟩)
theorem pow3_le {i : Nat} (h : i ≤ 10) : 3 ^ i ≤ 59049 := Nat.le_trans (Nat.pow_le_pow_right (by omega) h) (by decide)
theorem sc_l_least_costs : FnScope ["_law_picture_so", "_law_prices_so", "_law_key_so", "_law_p_so", "_law_found", "_law_cell_so", "_law_column_so", "_law_longer_so", "_law_rest_so", "_law_price_so", "_law_more_so", "_law_read_so", "_law_sum_so", "_law_cost_so"] ["_law_picture_so", "_law_prices_so", "_law_key_so"] (defScope s_l_least_costs) := ⟨rfl, rfl, rfl, by decide +kernel, rfl, by decide +kernel, by decide +kernel⟩
def dom_l_least_costs : List PyData → (List (List L2.Key × V) → Prop) → Prop := fun ds P => ∃ (p n top : Nat) (rs : List (List Int)) (ps : List (Option Int)) (k : Ky), ds = [picD top rs, pricesD ps, keyD k] ∧ (p = 2 ∨ p = 3) ∧ KOk p n k ∧ PicOk top n rs ∧ PrOk2 ps n ∧ P = DInv (Rch p k.m k.cols (canPay ps rs.flatten p) n)
abbrev sp_l_least_costs (K : PySem.W.Frag) : Sp := SpK K dom_l_least_costs
abbrev lv_l_least_costs : Nat := 3
section
variable {G0 H0 : Hp}
def lcI (G H0 : Hp) (σ0 : Option V → Option V → Option V → L2.St) (F Lg : Addr) (fF : HO) (R : List Int → Prop) (B : Nat) (σ' : L2.St) (H' : Hp) : Prop :=
  ∃ s11 s12 s13 kl', σ' = σ0 s11 s12 s13 ∧ Ex G H' ∧ Ex H0 H' ∧ H' F = some fF ∧ H' Lg = some (.dT kl') ∧ DInv R kl' ∧ kl'.length ≤ B
def turnR (p : Nat) (Rl : List Int → Prop) (kf : List (List L2.Key × V)) (more : List Int) (i : Nat) (r : List Int) : Prop := Rl r ∨ ∃ (j : Nat) (q : List Int) (v : V), j < i ∧ kf[j]? = some (kOf q, v) ∧ r = rowPlus p q more
theorem turnR_succ {p : Nat} {Rl : List Int → Prop} {kf : List (List L2.Key × V)} {more : List Int} {i : Nat} {r : List Int} {v : V} (e : kf[i]? = some (kOf r, v)) (z : List Int) : (turnR p Rl kf more i z ∨ z = rowPlus p r more) ↔ turnR p Rl kf more (i + 1) z := by
  constructor
  · rintro ((h | ⟨j, q, v, h1, h2, h3⟩) | h)
    · exact .inl h
    · exact .inr ⟨j, q, v, by omega, h2, h3⟩
    · exact .inr ⟨i, r, v, by omega, e, h⟩
  · rintro (h | ⟨j, q, v, h1, h2, h3⟩)
    · exact .inl (.inl h)
    · rcases Nat.lt_succ_iff_lt_or_eq.mp h1 with h1 | rfl
      · exact .inl (.inr ⟨j, q, v, h1, h2, h3⟩)
      · rw [e] at h2
        have := (Prod.mk.inj (Option.some.inj h2)).1
        rw [h3, ← kOf_inj this]
        exact .inr rfl
theorem turnR_end {p : Nat} {Rl Rf : List Int → Prop} {kf : List (List L2.Key × V)} {more : List Int} (iF : DInv Rf kf) (r : List Int) : turnR p Rl kf more kf.length r ↔ (Rl r ∨ ∃ q, Rf q ∧ r = rowPlus p q more) := by
  constructor
  · rintro (h | ⟨j, q, v, _, h2, h3⟩)
    · exact .inl h
    · obtain ⟨r', e1, e2⟩ := iF.at h2
      rw [kOf_inj e1] at h3
      exact .inr ⟨r', e2, h3⟩
  · rintro (h | ⟨q, h1, h2⟩)
    · exact .inl h
    · have hm := (iF.mem (kOf q)).mpr ⟨q, rfl, h1⟩
      obtain ⟨kv, hkv, e⟩ := List.mem_map.mp hm
      obtain ⟨j, hj, e3⟩ := List.getElem_of_mem hkv
      refine .inr ⟨j, q, kv.2, hj, ?_, h2⟩
      rw [List.getElem?_eq_getElem hj, e3, ← e]
/-- the innermost loop -/
theorem lc_inner {G : Hp} {σ : L2.St} {H : Hp} {D : Ends} {F Lg : Addr} {p m B : Nat} {Rf Rl : List Int → Prop} {kf kl : List (List L2.Key × V)} {more : List Int} {pr : Int} {v0 v1 v2 vm : V} {d0 d1 d2 : PyData} {s5 s6 s8 s11 s12 s13 : Option V} {σ0 : Option V → Option V → Option V → L2.St}
    (hp : p = 2 ∨ p = 3) (hσ0 : σ0 = fun s11 s12 s13 => [some v0, some v1, some v2, some (.int (p : Int)), some (.ref F), s5, s6, some (.ref Lg), s8, some (.int pr), some vm, s11, s12, s13]) (hσ : σ = σ0 s11 s12 s13)
    (r0 : Rp K G v0 d0) (r1 : Rp K G v1 d1) (r2 : Rp K G v2 d2) (rm : Rp K G vm (rowD more)) (hx : Ex G H) (hF : H F = some (.dT kf)) (hL : H Lg = some (.dT kl)) (hFL : F ≠ Lg) (gF : G F = none) (gL : G Lg = none) (nF : H0 F = none) (nL : H0 Lg = none) (hh : Ex H0 H)
    (iF : DInv Rf kf) (iL : DInv Rl kl) (hlen : ∀ r, Rf r → r.length = m) (hm : m ≤ 1000) (hB : kl.length ≤ B) (hB2 : B + kf.length < 1000000)
    (q : ∀ σ' H', lcI G H0 σ0 F Lg (.dT kf) (fun r => Rl r ∨ ∃ q, Rf q ∧ r = rowPlus p q more) (B + kf.length) σ' H' → D.nx σ' H') :
    tLock (tFor (iKeys (tVar 4)) (gName 11) (tSeq (tPar 12 13 (tCons (tCall (sp_l_row_plus K) [] E0 (tCons (tVar 11) (tCons (tVar 10) (tCons (tVar 3) tNil)))) (tCons (tOp (rI0 fun i j => .int (i + j)) (tDGet (tVar 4) (tVar 11)) (tVar 9)) tNil)))
      (tIfS (tOr (tB (tDNotIn (tVar 12) (tVar 7))) (tTest (tOp (rI0 fun i j => .bl (decide (i < j))) (tVar 13) (tDGet (tVar 7) (tVar 12))))) (sDPut (tVar 7) (tVar 12) (tVar 13)) tNext))) D σ H := by
  subst hσ
  have hs4 : (σ0 s11 s12 s13)[4]? = some (some (.ref F)) := by rw [hσ0]; rfl
  refine ⟨F, .dT kf, hF, trivial, fun od => ⟨_, hs4, F, od, rfl, .inr ⟨kf, upd_same, ?_⟩⟩⟩
  refine ⟨fun i k σ' H' => k = kf.length - i ∧ i ≤ kf.length ∧ lcI G H0 σ0 F Lg (.frz od (.dT kf)) (turnR p Rl kf more i) (B + i) σ' H',
    ⟨kf.length, by simp, Nat.zero_le _, s11, s12, s13, kl, rfl, fun a u e => ?_, fun a u e => ?_, upd_same, by rw [upd_ne (Ne.symm hFL)]; exact hL, iL.congr fun r => ⟨.inl, fun z => z.elim id fun ⟨j, q, v, hj, _⟩ => absurd hj (Nat.not_lt_zero j)⟩, hB⟩, ?_⟩
  · rw [upd_ne (fun z => by rw [z, gF] at e; cases e)]
    exact hx a u e
  · rw [upd_ne (fun z => by rw [z, nF] at e; cases e)]
    exact hh a u e
  rintro i k σ' H' ⟨rfl, hle, t11, t12, t13, kl', rfl, hx', hh', hF', hL', iL', hB'⟩
  by_cases hi : i < kf.length
  · refine .inr ⟨⟨hF', hi⟩, fun σ2 H2 => i + 1 ≤ kf.length ∧ lcI G H0 σ0 F Lg (.frz od (.dT kf)) (turnR p Rl kf more (i + 1)) (B + (i + 1)) σ2 H2, fun σ2 H2 h => ⟨kf.length - (i + 1), by omega, rfl, h⟩, ?_⟩
    rintro x H'' ⟨hHH, kk, vv, q0, e1, rfl, e2⟩
    have hHH := hHH.symm
    subst hHH
    obtain ⟨r, rfl, hr⟩ := iF.at e1
    have hxG : Ex G (upd G q0 (.tup ((kOf r).map kV))) := fun a u e => by
      by_cases ha : a = q0
      · subst ha
        rw [upd_same, ← e2]
        exact hx' a u e
      · rw [upd_ne ha]
        exact e
    have hxH : Ex (upd G q0 (.tup ((kOf r).map kV))) H' := fun a u e => by
      by_cases ha : a = q0
      · subst ha
        rw [upd_same] at e
        rw [← e]
        exact e2
      · rw [upd_ne ha] at e
        exact hx' a u e
    have gL1 : (upd G q0 (.tup ((kOf r).map kV))) Lg = none := by
      rw [upd_ne (fun z => by rw [z, e2] at hL'; cases hL')]
      exact gL
    have gat : (upd G q0 (.tup ((kOf r).map kV))) q0 = some (.tup ((kOf r).map kV)) := upd_same
    generalize upd G q0 (.tup ((kOf r).map kV)) = G1 at hxG hxH gL1 gat
    have rq : Rp K G1 (.ref q0) (rowD r) := by
      refine .tup gat ?_
      rw [kOf_V]
      clear e1 e2 hr gat
      induction r with
      | nil => exact .nil
      | cons a r ih => exact .cons (.int a) ih
    have En : EnvD K none 0 [.val d0, .val d1, .val d2, .val (.int (p : Int)), .un, .un, .un, .un, .un, .val (.int pr), .val (rowD more), .val (rowD r), .un, .un] [some v0, some v1, some v2, some (.int (p : Int)), some (.ref F), s5, s6, some (.ref Lg), s8, some (.int pr), some vm, some (.ref q0), t12, t13] G1 H' :=
      env_all (.val (dp_up hxG r0) (.val (dp_up hxG r1) (.val (dp_up hxG r2) (.val (.int _) (.un (.un (.un (.un (.un (.val (.int _) (.val (dp_up hxG rm) (.val rq (.un (.un .nil)))))))))))))) hxH
    have e0 : ((σ0 t11 t12 t13).set 11 (some (.ref q0))) = [some v0, some v1, some v2, some (.int (p : Int)), some (.ref F), s5, s6, some (.ref Lg), s8, some (.int pr), some vm, some (.ref q0), t12, t13] := by rw [hσ0]; rfl
    show tSeq _ _ _ ((σ0 t11 t12 t13).set 11 (some (.ref q0))) H'
    rw [e0]
    refine XD.run (d := rowD (rowPlus p r more)) (xc_l_row_plus (p := p) (a := r) (b := more) (xad_cons (xd_var rfl) (xad_cons (xd_var rfl) (xad_cons (xd_var rfl) xad_nil))) hp (by rw [hlen r hr]; exact hm)) En fun w1 G2 H2 t2 rw1 => ?_
    have hF2 : H2 F = some (.frz od (.dT kf)) := t2.fr F _ (fun z => nomatch z) hF'
    have hL2 : H2 Lg = some (.dT kl') := t2.fr Lg _ (fun z => nomatch z) hL'
    have hq2 : H2 q0 = some (.tup ((kOf r).map kV)) := t2.fr q0 _ (fun z => nomatch z) e2
    have gL2 : G2 Lg = none := t2.nw Lg (by rw [hL']; exact fun z => nomatch z) gL1
    obtain ⟨b, rfl, gb⟩ := row_at rw1
    have hb : H2 b = some (.tup ((kOf (rowPlus p r more)).map kV)) := t2.ex _ _ gb
    obtain ⟨c, hc⟩ : ∃ c : Int, valV kf (kOf r) = some (.int c) := by
      rcases iF.val (s := r) with h | ⟨_, c, h⟩
      · exact absurd (List.mem_map.mpr ⟨_, List.mem_of_getElem? e1, rfl⟩) (valV_not h)
      · exact ⟨c, h⟩
    refine ⟨_, rfl, _, rfl, F, .int c, rfl, by rw [← hc]; exact .inr ⟨kf, kOf r, q0, .inr ⟨od, hF2⟩, rfl, hq2, rfl⟩, _, rfl, c, pr, rfl, rfl, _, _, rfl, ?_⟩
    have hh2 : Ex H0 H2 := fun a u e => t2.fr a u (fun z => nomatch z) (hh' a u e)
    have hx2 : Ex G H2 := (hxG.trans t2.gg).trans t2.ex
    have fin : ∀ H3 kl3, Ex H2 H3 ∨ (∃ o, H3 = upd H2 Lg o) → H3 Lg = some (.dT kl3) → DInv (fun z => turnR p Rl kf more i z ∨ z = rowPlus p r more) kl3 → kl3.length ≤ kl'.length + 1 →
        i + 1 ≤ kf.length ∧ lcI G H0 σ0 F Lg (.frz od (.dT kf)) (turnR p Rl kf more (i + 1)) (B + (i + 1)) [some v0, some v1, some v2, some (.int (p : Int)), some (.ref F), s5, s6, some (.ref Lg), s8, some (.int pr), some vm, some (.ref q0), some (.ref b), some (.int (c + pr))] H3 := fun H3 kl3 h3 hL3 i3 hl3 => by
      have keep : ∀ a u, a ≠ Lg → H2 a = some u → H3 a = some u := fun a u ha e => by
        rcases h3 with h3 | ⟨o, rfl⟩
        · exact h3 a u e
        · rw [upd_ne ha]
          exact e
      exact ⟨hi, some (.ref q0), some (.ref b), some (.int (c + pr)), kl3, by rw [hσ0], fun a u e => keep a u (fun z => by rw [z, gL] at e; cases e) (hx2 a u e), fun a u e => keep a u (fun z => by rw [z, nL] at e; cases e) (hh2 a u e), keep F _ hFL hF2, hL3, i3.congr (turnR_succ e1), by omega⟩
    have hsz : kl'.length < sizeLine := by rw [sizeLine_eq]; omega
    rcases iL'.val (s := rowPlus p r more) with h | ⟨hR, c2, h⟩
    · refine ⟨_, rfl, _, rfl, Lg, none, rfl, by rw [← h]; exact DGet.t hL2 hb, _, rfl, ?_⟩
      exact ifs_t rfl (ifs_t rfl ⟨_, rfl, _, rfl, _, rfl, Lg, _, rfl, DPut.t hL2 hb hsz, fin _ _ (.inr ⟨_, rfl⟩) upd_same iL'.put (length_putK _ _ _)⟩)
    · refine ⟨_, rfl, _, rfl, Lg, some (.int c2), rfl, by rw [← h]; exact DGet.t hL2 hb, _, rfl, ?_⟩
      refine ifs_f rfl ⟨_, rfl, _, rfl, _, rfl, Lg, .int c2, rfl, by rw [← h]; exact DGet.t hL2 hb, c + pr, c2, rfl, rfl, _, rfl, ?_⟩
      cases hd : decide (c + pr < c2) with
      | true => exact ifs_t rfl ⟨_, rfl, _, rfl, _, rfl, Lg, _, rfl, DPut.t hL2 hb hsz, fin _ _ (.inr ⟨_, rfl⟩) upd_same iL'.put (length_putK _ _ _)⟩
      | false => exact ifs_f rfl (fin H2 kl' (.inl (Ex.refl _)) hL2 (iL'.there hR) (by omega))
  · have e : i = kf.length := by omega
    subst e
    refine .inl ⟨⟨hF', Nat.le_refl _⟩, hF', ?_⟩
    refine q _ (upd H' F (.dT kf)) ⟨t11, t12, t13, kl', rfl, fun a u e => ?_, fun a u e => ?_, upd_same, by rw [upd_ne (Ne.symm hFL)]; exact hL', iL'.congr (turnR_end iF), hB'⟩
    · rw [upd_ne (fun z => by rw [z, gF] at e; cases e)]
      exact hx' a u e
    · rw [upd_ne (fun z => by rw [z, nF] at e; cases e)]
      exact hh' a u e
end
end
end Dry

set_option Elab.async false
set_option linter.all false
set_option maxRecDepth 100000
set_option maxHeartbeats 4000000
namespace Dry
open PySem PySem.Spec PyProof.Rows L2 RZ
section
variable {P : Program} {w : World} {K : PySem.W.Frag} {mg : Str → Option Value} {base : Heap}
def restR (p : Nat) (Rf : List Int → Prop) (pay : Int → Bool) (col : List Int) (ρ : Nat) (r : List Int) : Prop := ∃ (q : List Int) (rest : Nat), Rf q ∧ rest < ρ ∧ pay (rest : Int) = true ∧ r = rowPlus p q (rowTimes p (rest : Int) col)
def lcR (G H0 : Hp) (σ0 : Option V → Option V → Option V → Option V → Option V → Option V → L2.St) (F Lg : Addr) (kf : List (List L2.Key × V)) (R : List Int → Prop) (B : Nat) (σ' : L2.St) (H' : Hp) : Prop :=
  ∃ s8 s9 s10 s11 s12 s13 kl', σ' = σ0 s8 s9 s10 s11 s12 s13 ∧ Ex G H' ∧ Ex H0 H' ∧ H' F = some (.dT kf) ∧ H' Lg = some (.dT kl') ∧ DInv R kl' ∧ kl'.length ≤ B
abbrev tInner (K : PySem.W.Frag) : TS := tLock (tFor (iKeys (tVar 4)) (gName 11) (tSeq (tPar 12 13 (tCons (tCall (sp_l_row_plus K) [] E0 (tCons (tVar 11) (tCons (tVar 10) (tCons (tVar 3) tNil)))) (tCons (tOp (rI0 fun i j => .int (i + j)) (tDGet (tVar 4) (tVar 11)) (tVar 9)) tNil)))
      (tIfS (tOr (tB (tDNotIn (tVar 12) (tVar 7))) (tTest (tOp (rI0 fun i j => .bl (decide (i < j))) (tVar 13) (tDGet (tVar 7) (tVar 12))))) (sDPut (tVar 7) (tVar 12) (tVar 13)) tNext)))
abbrev tRest (K : PySem.W.Frag) : TS := tFor (iRng1 (tCons (tVar 3) tNil)) (gName 8) (tSeq (tAsg (tCall (sp_l_price K) [] E0 (tCons (tVar 0) (tCons (tVar 1) (tCons (tVar 3) (tCons (tVar 5) (tCons (tVar 8) tNil)))))) (gName 9))
  (tSeq (tIfS (tB (tIsN (tVar 9))) tCont tNext) (tSeq (tAsg (tCall (sp_l_row_times K) [] E0 (tCons (tVar 8) (tCons (tVar 6) (tCons (tVar 3) tNil)))) (gName 10)) (tInner K))))
section
variable {G0 H0 : Hp}
theorem lc_rest {G : Hp} {σ : L2.St} {H : Hp} {D : Ends} {F Lg : Addr} {p n top i m : Nat} {Rf : List Int → Prop} {kf : List (List L2.Key × V)} {col : List Int} {rs : List (List Int)} {ps : List (Option Int)} {k : Ky} {v0 v1 v2 vc : V} {s8 s9 s10 s11 s12 s13 : Option V} {σ0 : Option V → Option V → Option V → Option V → Option V → Option V → L2.St}
    (hp : p = 2 ∨ p = 3) (hP : PicOk top n rs) (hpr : PrOk2 ps n) (hi : i < n) (hσ0 : σ0 = fun s8 s9 s10 s11 s12 s13 => [some v0, some v1, some v2, some (.int (p : Int)), some (.ref F), some (.int (i : Int)), some vc, some (.ref Lg), s8, s9, s10, s11, s12, s13]) (hσ : σ = σ0 s8 s9 s10 s11 s12 s13)
    (r0 : Rp K G v0 (picD top rs)) (r1 : Rp K G v1 (pricesD ps)) (r2 : Rp K G v2 (keyD k)) (rc : Rp K G vc (rowD col)) (hx : Ex G H) (hF : H F = some (.dT kf)) (hL : H Lg = some (.dT [])) (hFL : F ≠ Lg) (gF : G F = none) (gL : G Lg = none) (nF : H0 F = none) (nL : H0 Lg = none) (hh : Ex H0 H)
    (iF : DInv Rf kf) (hlen : ∀ r, Rf r → r.length = m) (hm : m ≤ 1000) (hcl : col.length = m) (hB : kf.length ≤ 59049)
    (q : ∀ σ' H', lcR G H0 σ0 F Lg kf (restR p Rf (canPay ps rs.flatten p i) col p) (p * kf.length) σ' H' → D.nx σ' H') : tRest K D σ H := by
  subst hσ
  have En : EnvD K none 0 [.val (picD top rs), .val (pricesD ps), .val (keyD k), .val (.int (p : Int)), .un, .val (.int (i : Int)), .val (rowD col), .un, .un, .un, .un, .un, .un, .un] (σ0 s8 s9 s10 s11 s12 s13) G H := by
    rw [hσ0]
    exact env_all (.val r0 (.val r1 (.val r2 (.val (.int _) (.un (.val (.int _) (.val rc (.un (.un (.un (.un (.un (.un (.un .nil)))))))))))))) hx
  refine xid_rangeN (K := K) (k := p) (xad_cons (xd_var rfl) xad_nil) (by omega) 0 none _ G H En _ fun J items G1 H1 t1 W hI => ?_
  subst hI
  have hlen2 : ((List.range p).map fun i : Nat => PyData.int (i : Int)).length = p := by simp
  have r0 := dp_up t1.gg r0
  have r1 := dp_up t1.gg r1
  have r2 := dp_up t1.gg r2
  have rc := dp_up t1.gg rc
  have gF : G1 F = none := t1.nw F (by rw [hF]; exact fun z => nomatch z) gF
  have gL : G1 Lg = none := t1.nw Lg (by rw [hL]; exact fun z => nomatch z) gL
  have gg1 := t1.gg
  refine ⟨fun ρ k σ' H' => k = p - ρ ∧ ρ ≤ p ∧ lcR G1 H0 σ0 F Lg kf (restR p Rf (canPay ps rs.flatten p i) col ρ) (ρ * kf.length) σ' H',
    ⟨p, rfl, Nat.zero_le _, s8, s9, s10, s11, s12, s13, [], rfl, t1.ex, fun a u e => t1.fr a u (fun z => nomatch z) (hh a u e), t1.fr F _ (fun z => nomatch z) hF, t1.fr Lg _ (fun z => nomatch z) hL, DInv.nil.congr fun r => ⟨False.elim, fun ⟨_, _, _, h, _⟩ => absurd h (Nat.not_lt_zero _)⟩, by simp⟩, ?_⟩
  rintro ρ k' σ' H' ⟨rfl, hle, t8, t9, t10, t11, t12, t13, kl', rfl, hx', hh', hF', hL', iL', hB'⟩
  have En' : EnvD K none 0 [.val (picD top rs), .val (pricesD ps), .val (keyD k), .val (.int (p : Int)), .un, .val (.int (i : Int)), .val (rowD col), .un, .un, .un, .un, .un, .un, .un] (σ0 t8 t9 t10 t11 t12 t13) G1 H' := by
    rw [hσ0]
    exact env_all (.val r0 (.val r1 (.val r2 (.val (.int _) (.un (.val (.int _) (.val rc (.un (.un (.un (.un (.un (.un (.un .nil)))))))))))))) hx'
  obtain ⟨w1, w2, w3⟩ := W none 0 _ _ G1 H' En' (Ex.refl _)
  by_cases hi' : ρ < p
  · refine .inr ⟨w1 ρ (by rw [hlen2]; exact hi'), fun σ2 H2 => ρ + 1 ≤ p ∧ lcR G1 H0 σ0 F Lg kf (restR p Rf (canPay ps rs.flatten p i) col (ρ + 1)) ((ρ + 1) * kf.length) σ2 H2, fun σ2 H2 h => ⟨p - (ρ + 1), by omega, rfl, h⟩, fun x H2 hy => ?_⟩
    obtain ⟨G2, t2, rx⟩ := w3 ρ (.int (ρ : Int)) x H2 (by rw [List.getElem?_map, List.getElem?_range hi']; rfl) hy
    cases rx
    have hx2 : Ex G1 H2 := t2.gg.trans t2.ex
    have hh2 : Ex H0 H2 := fun a u e => t2.fr a u (fun z => nomatch z) (hh' a u e)
    have hF2 := t2.fr F _ (fun z => nomatch z) hF'
    have hL2 := t2.fr Lg _ (fun z => nomatch z) hL'
    show tSeq _ _ _ ((σ0 t8 t9 t10 t11 t12 t13).set 8 (some (.int (ρ : Int)))) H2
    have e0 : ((σ0 t8 t9 t10 t11 t12 t13).set 8 (some (.int (ρ : Int)))) = σ0 (some (.int (ρ : Int))) t9 t10 t11 t12 t13 := by rw [hσ0]; rfl
    rw [e0]
    have En2 : EnvD K none 0 [.val (picD top rs), .val (pricesD ps), .val (keyD k), .val (.int (p : Int)), .un, .val (.int (i : Int)), .val (rowD col), .un, .val (.int (ρ : Int)), .un, .un, .un, .un, .un] (σ0 (some (.int (ρ : Int))) t9 t10 t11 t12 t13) G1 H2 := by
      rw [hσ0]
      exact env_all (.val r0 (.val r1 (.val r2 (.val (.int _) (.un (.val (.int _) (.val rc (.un (.val (.int _) (.un (.un (.un (.un (.un .nil)))))))))))))) hx2
    refine xc_l_price (K := K) (p := p) (top := top) (i := i) (rs := rs) (ps := ps) (r := (ρ : Int)) (xad_cons (xd_var rfl) (xad_cons (xd_var rfl) (xad_cons (xd_var rfl) (xad_cons (xd_var rfl) (xad_cons (xd_var rfl) xad_nil))))) hp hP hpr hi ⟨by omega, by omega⟩ none _ G1 H2 En2 _ fun v d G3 H3 t3 rv pd => ?_
    have hx3 : Ex G1 H3 := t3.gg.trans t3.ex
    have hh3 : Ex H0 H3 := fun a u e => t3.fr a u (fun z => nomatch z) (hh2 a u e)
    have hF3 := t3.fr F _ (fun z => nomatch z) hF2
    have hL3 := t3.fr Lg _ (fun z => nomatch z) hL2
    show tSeq _ _ _ ((σ0 (some (.int (ρ : Int))) t9 t10 t11 t12 t13).set 9 (some v)) H3
    have e1 : ((σ0 (some (.int (ρ : Int))) t9 t10 t11 t12 t13).set 9 (some v)) = σ0 (some (.int (ρ : Int))) (some v) t10 t11 t12 t13 := by rw [hσ0]; rfl
    rw [e1]
    have hs9 : (σ0 (some (.int (ρ : Int))) (some v) t10 t11 t12 t13)[9]? = some (some v) := by rw [hσ0]; rfl
    cases hc : canPay ps rs.flatten p i (ρ : Int) with
    | false =>
      have pd : if canPay ps rs.flatten p i (ρ : Int) = true then ∃ c : Int, d = .int c else d = .none := pd
      rw [hc, if_neg Bool.false_ne_true] at pd
      subst pd
      cases rv
      refine ⟨_, hs9, decide True, by rfl, ifs_t rfl ?_⟩
      refine ⟨hi', _, _, _, _, _, _, kl', rfl, hx3, hh3, hF3, hL3, iL'.congr fun r => ?_, ?_⟩
      · constructor
        · rintro ⟨q, rest, h1, h2, h3, h4⟩
          exact ⟨q, rest, h1, by omega, h3, h4⟩
        · rintro ⟨q, rest, h1, h2, h3, h4⟩
          rcases Nat.lt_succ_iff_lt_or_eq.mp h2 with h2 | rfl
          · exact ⟨q, rest, h1, h2, h3, h4⟩
          · rw [hc] at h3
            cases h3
      · rw [Nat.succ_mul]
        omega
    | true =>
      have pd : if canPay ps rs.flatten p i (ρ : Int) = true then ∃ c : Int, d = .int c else d = .none := pd
      rw [hc, if_pos rfl] at pd
      obtain ⟨c, rfl⟩ := pd
      cases rv
      refine ⟨_, hs9, decide False, by rfl, ifs_f rfl ?_⟩
      have En3 : EnvD K none 0 [.val (picD top rs), .val (pricesD ps), .val (keyD k), .val (.int (p : Int)), .un, .val (.int (i : Int)), .val (rowD col), .un, .val (.int (ρ : Int)), .val (.int c), .un, .un, .un, .un] (σ0 (some (.int (ρ : Int))) (some (.int c)) t10 t11 t12 t13) G1 H3 := by
        rw [hσ0]
        exact env_all (.val r0 (.val r1 (.val r2 (.val (.int _) (.un (.val (.int _) (.val rc (.un (.val (.int _) (.val (.int _) (.un (.un (.un (.un .nil)))))))))))))) hx3
      refine XD.run (d := rowD (rowTimes p (ρ : Int) col)) (xc_l_row_times (p := p) (xad_cons (xd_var rfl) (xad_cons (xd_var rfl) (xad_cons (xd_var rfl) xad_nil))) hp ⟨by omega, by omega⟩ (by omega)) En3 fun vm G4 H4 t4 rm => ?_
      have hh4 : Ex H0 H4 := fun a u e => t4.fr a u (fun z => nomatch z) (hh3 a u e)
      refine lc_inner (H0 := H0) (B := ρ * kf.length) (m := m) (σ0 := fun s11 s12 s13 => σ0 (some (.int (ρ : Int))) (some (.int c)) (some vm) s11 s12 s13) (s11 := t11) (s12 := t12) (s13 := t13) hp (by rw [hσ0]) (by rw [hσ0]; rfl) (dp_up t4.gg r0) (dp_up t4.gg r1) (dp_up t4.gg r2) rm t4.ex (t4.fr F _ (fun z => nomatch z) hF3) (t4.fr Lg _ (fun z => nomatch z) hL3) hFL
        (t4.nw F (by rw [hF3]; exact fun z => nomatch z) gF) (t4.nw Lg (by rw [hL3]; exact fun z => nomatch z) gL) nF nL hh4 iF iL' hlen hm hB' ?_ ?_
      · have : ρ * kf.length ≤ 3 * 59049 := Nat.mul_le_mul (by omega) hB
        omega
      · rintro σ5 H5 ⟨s11, s12, s13, kl5, e5, hx5, hh5, hF5, hL5, i5, hB5⟩
        refine ⟨hi', _, _, _, _, _, _, kl5, e5, t4.gg.trans hx5, hh5, hF5, hL5, i5.congr fun r => ?_, by rw [Nat.succ_mul]; exact hB5⟩
        constructor
        · rintro (⟨q, rest, h1, h2, h3, h4⟩ | ⟨q, h1, h2⟩)
          · exact ⟨q, rest, h1, by omega, h3, h4⟩
          · exact ⟨q, ρ, h1, by omega, hc, h2⟩
        · rintro ⟨q, rest, h1, h2, h3, h4⟩
          rcases Nat.lt_succ_iff_lt_or_eq.mp h2 with h2 | rfl
          · exact .inl ⟨q, rest, h1, h2, h3, h4⟩
          · exact .inr ⟨q, h1, h4⟩
  · have e : ρ = p := by omega
    subst e
    refine .inl ⟨by rw [hlen2] at w2; exact w2, ?_⟩
    exact q _ H' ⟨t8, t9, t10, t11, t12, t13, kl', rfl, gg1.trans hx', hh', hF', hL', iL', hB'⟩
end
end
end Dry

set_option Elab.async false
set_option linter.all false
set_option maxRecDepth 100000
set_option maxHeartbeats 4000000
namespace Dry
open PySem PySem.Spec PyProof.Rows L2 RZ
section
variable {P : Program} {w : World} {K : PySem.W.Frag} {mg : Str → Option Value} {base : Heap}
def lcO (G H0 : Hp) (v0 v1 v2 : V) (p : Nat) (R : List Int → Prop) (B : Nat) (σ' : L2.St) (H' : Hp) : Prop :=
  ∃ (F : Addr) (kf : List (List L2.Key × V)) (s5 s6 s7 s8 s9 s10 s11 s12 s13 : Option V), σ' = [some v0, some v1, some v2, some (.int (p : Int)), some (.ref F), s5, s6, s7, s8, s9, s10, s11, s12, s13] ∧ Ex G H' ∧ Ex H0 H' ∧ H' F = some (.dT kf) ∧ G F = none ∧ H0 F = none ∧ DInv R kf ∧ kf.length ≤ B
abbrev tCells (K : PySem.W.Frag) : TS := tFor (iEnumT K (tCons (tOp (rIxT K) (tVar 2) (tC (.int 2))) tNil)) (gTup K 2 (gCons (gName 5) (gCons (gName 6) gNil))) (tSeq (tAsg tDNewT (gName 7)) (tSeq (tRest K) (tAsg (tVar 7) (gName 4))))
theorem lc_cells {G H0 : Hp} {σ : L2.St} {H : Hp} {D : Ends} {p n top : Nat} {rs : List (List Int)} {ps : List (Option Int)} {k : Ky} {v0 v1 v2 : V}
    (hp : p = 2 ∨ p = 3) (hk : KOk p n k) (hP : PicOk top n rs) (hpr : PrOk2 ps n) (r0 : Rp K G v0 (picD top rs)) (r1 : Rp K G v1 (pricesD ps)) (r2 : Rp K G v2 (keyD k))
    (hI : lcO G H0 v0 v1 v2 p (Rch p k.m k.cols (canPay ps rs.flatten p) 0) 1 σ H)
    (q : ∀ σ' H', lcO G H0 v0 v1 v2 p (Rch p k.m k.cols (canPay ps rs.flatten p) n) 59049 σ' H' → D.nx σ' H') : tCells K D σ H := by
  obtain ⟨F, kf, s5, s6, s7, s8, s9, s10, s11, s12, s13, rfl, hx, hh, hF, gF, nF, iF, hB⟩ := hI
  have hn1 := hP.n1
  have hkn := hk.nn
  have hcol : ∀ c ∈ k.cols, c.length = k.m := fun c hc => (hk.col c hc).1
  have En : EnvD K none 0 [.val (picD top rs), .val (pricesD ps), .val (keyD k), .val (.int (p : Int)), .un, .un, .un, .un, .un, .un, .un, .un, .un, .un] [some v0, some v1, some v2, some (.int (p : Int)), some (.ref F), s5, s6, s7, s8, s9, s10, s11, s12, s13] G H :=
    env_all (.val r0 (.val r1 (.val r2 (.val (.int _) (.un (.un (.un (.un (.un (.un (.un (.un (.un (.un .nil)))))))))))))) hx
  refine (xid_enumT (K := K) (xad_cons (xd_op (xd_var rfl) xd_int (rd_ixT (ds := [.int k.p, .int k.m, rowsD k.cols]) (i := 2) (d := rowsD k.cols) rfl)) xad_nil)) 0 none _ G H En _ fun J items G1 H1 t1 W hI => ?_
  subst hI
  have hil : (enD (k.cols.map rowD)).length = n := by rw [enD_len, List.length_map, hkn]
  have gg1 := t1.gg
  have r0 := dp_up t1.gg r0
  have r1 := dp_up t1.gg r1
  have r2 := dp_up t1.gg r2
  refine ⟨fun i kk σ' H' => kk = n - i ∧ i ≤ n ∧ lcO G1 H0 v0 v1 v2 p (Rch p k.m k.cols (canPay ps rs.flatten p) i) (3 ^ i) σ' H',
    ⟨n, rfl, Nat.zero_le _, F, kf, s5, s6, s7, s8, s9, s10, s11, s12, s13, rfl, t1.ex, fun a u e => t1.fr a u (fun z => nomatch z) (hh a u e), t1.fr F _ (fun z => nomatch z) hF, t1.nw F (by rw [hF]; exact fun z => nomatch z) gF, nF, iF, hB⟩, ?_⟩
  rintro i kk σ' H' ⟨rfl, hle, F', kf', t5, t6, t7, t8, t9, t10, t11, t12, t13, rfl, hx', hh', hF', gF', nF', iF', hB'⟩
  have En' : EnvD K none 0 [.val (picD top rs), .val (pricesD ps), .val (keyD k), .val (.int (p : Int)), .un, .un, .un, .un, .un, .un, .un, .un, .un, .un] [some v0, some v1, some v2, some (.int (p : Int)), some (.ref F'), t5, t6, t7, t8, t9, t10, t11, t12, t13] G1 H' :=
    env_all (.val r0 (.val r1 (.val r2 (.val (.int _) (.un (.un (.un (.un (.un (.un (.un (.un (.un (.un .nil)))))))))))))) hx'
  obtain ⟨w1, w2, w3⟩ := W none 0 _ _ G1 H' En' (Ex.refl _)
  have hpow := pow3_le (i := i) (by omega)
  by_cases hi' : i < n
  · refine .inr ⟨w1 i (by rw [hil]; exact hi'), fun σ2 H2 => i + 1 ≤ n ∧ lcO G1 H0 v0 v1 v2 p (Rch p k.m k.cols (canPay ps rs.flatten p) (i + 1)) (3 ^ (i + 1)) σ2 H2, fun σ2 H2 h => ⟨n - (i + 1), by omega, rfl, h⟩, fun x H2 hy => ?_⟩
    have hgi : (enD (k.cols.map rowD))[i]? = some (.tuple [.int (i : Nat), rowD (k.cols.getD i [])]) := by
      rw [enD_map, List.getElem?_map, List.getElem?_zipIdx, getD_some (rs := k.cols) (i := i) (by omega) []]
      simp
    obtain ⟨G2, t2, rx⟩ := w3 i _ x H2 hgi hy
    obtain ⟨a, xs, rfl, ha, hr⟩ := dp_tup_inv rx
    cases hr with
    | cons ra hr =>
      cases hr with
      | cons rb hr =>
        cases hr
        cases ra
        rename_i vb
        refine ⟨a, _, rfl, t2.ex.t ha, rfl, _, _, rfl, _, _, rfl, rfl, ?_⟩
        show tSeq _ _ _ [some v0, some v1, some v2, some (.int (p : Int)), some (.ref F'), some (.int (i : Int)), some vb, t7, t8, t9, t10, t11, t12, t13] H2
        intro Lg hLg
        show tSeq _ _ _ [some v0, some v1, some v2, some (.int (p : Int)), some (.ref F'), some (.int (i : Int)), some vb, some (.ref Lg), t8, t9, t10, t11, t12, t13] (upd H2 Lg (.dT []))
        have hF2 := t2.fr F' _ (fun z => nomatch z) hF'
        have hFL : F' ≠ Lg := fun z => by rw [z, hLg] at hF2; cases hF2
        have hh2 : Ex H0 H2 := fun a u e => t2.fr a u (fun z => nomatch z) (hh' a u e)
        have g2L : G2 Lg = none := t2.ex.free hLg
        have n2L : H0 Lg = none := hh2.free hLg
        refine lc_rest (H0 := H0) (m := k.m) (Rf := Rch p k.m k.cols (canPay ps rs.flatten p) i) (σ0 := fun s8 s9 s10 s11 s12 s13 => [some v0, some v1, some v2, some (.int (p : Int)), some (.ref F'), some (.int (i : Int)), some vb, some (.ref Lg), s8, s9, s10, s11, s12, s13]) hp hP hpr hi' rfl rfl (dp_up t2.gg r0) (dp_up t2.gg r1) (dp_up t2.gg r2) rb
          (t2.ex.trans (Ex.new hLg)) (by rw [upd_ne hFL]; exact hF2) upd_same hFL (t2.nw F' (by rw [hF']; exact fun z => nomatch z) gF') g2L nF' n2L (hh2.trans (Ex.new hLg)) iF' (fun r hr => rch_len hcol (by omega) hr) (by have := hk.mm; omega) (hcol _ (List.mem_of_getElem? (getD_some (rs := k.cols) (i := i) (by omega) []))) (by omega) ?_
        rintro σ5 H5 ⟨s8, s9, s10, s11, s12, s13, kl, rfl, hx5, hh5, hF5, hL5, i5, hB5⟩
        refine ⟨_, rfl, ?_⟩
        refine ⟨hi', Lg, kl, _, _, _, _, _, _, _, _, _, rfl, t2.gg.trans hx5, hh5, hL5, ?_, n2L, i5.congr fun r => ?_, ?_⟩
        · exact t2.gg.free g2L
        · constructor
          · rintro ⟨q, rest, h1, h2, h3, h4⟩
            exact ⟨q, rest, h1, h2, h3, h4⟩
          · rintro ⟨q, rest, h1, h2, h3, h4⟩
            exact ⟨q, rest, h1, h2, h3, h4⟩
        · have : p * kf'.length ≤ 3 * 3 ^ i := Nat.mul_le_mul (by omega) hB'
          rw [Nat.pow_succ]
          omega
  · have e : i = n := by omega
    subst e
    refine .inl ⟨by rw [hil] at w2; exact w2, q _ H' ⟨F', kf', _, _, _, _, _, _, _, _, _, rfl, gg1.trans hx', hh', hF', gg1.free gF', nF', iF', by omega⟩⟩
theorem ok_l_least_costs (D : Df K mg "_law_least_costs" s_l_least_costs) (B : Bi mg) (C_l_price : Call1 P w K mg base CX0 lv_l_price "_law_price" (sp_l_price K)) (C_l_row_plus : Call1 P w K mg base CX0 lv_l_row_plus "_law_row_plus" (sp_l_row_plus K)) (C_l_row_times : Call1 P w K mg base CX0 lv_l_row_times "_law_row_times" (sp_l_row_times K)) : Call1 P w K mg base CX0 lv_l_least_costs "_law_least_costs" (sp_l_least_costs K) := by
  obtain ⟨f, fd', F, hm⟩ := D
  have hbn : ∀ (kV doc pm : Value) (an : Option Addr) (cdv ct : Value) (us : List Value), us.length = (["_law_picture_so", "_law_prices_so", "_law_key_so"] : List Str).length → bindArgs (PySem.W.fnOf "_law_least_costs" "_law_least_costs" (defArgs s_l_least_costs) (defBody s_l_least_costs) (defScope s_l_least_costs) .none kV doc pm an cdv ct) ⟨us, []⟩ = pure ((["_law_picture_so", "_law_prices_so", "_law_key_so"] : List Str).zip us) := fun _ _ _ _ _ _ us hl => match us, hl with | [_, _, _], _ => rfl
  refine ⟨f, fd', _, F.ok (k := lv_l_least_costs - 1) sc_l_least_costs (fun vs H Q E h => ?_) (fun cdv A outer s H vs Q E hr h => ⟨_, PSs.nox (pss_cons (ps_par (i := 3) (j := 4) rfl sc_l_least_costs.nd rfl rfl (by decide) rfl rfl (pa_cons (pe_ix (ixT (K := K)) (pv 2) pe_int (fun _ _ => rfl)) (pa_cons (pe_dispT1 (hu1 hr.units) (pe_op (opRepT (K := K)) (pe_tup (pa_cons pe_int pa_nil)) (pe_ix (ixT (K := K)) (pv 2) pe_int (fun _ _ => rfl))) pe_int) pa_nil)) (by rfl))
      (pss_cons (ps_for (g := (gTup K 2 (gCons (gName 5) (gCons (gName 6) gNil)))) PassesOwn.never rfl (piEnumT (K := K) (by rfl) B.enumerate (pa_cons (pe_ix (ixT (K := K)) (pv 2) pe_int (fun _ _ => rfl)) pa_nil)) (pgTup (K := K) rfl (pgs_cons (pgN (i := 5) sc_l_least_costs.nd rfl (by first | exact Or.inl rfl | exact Or.inr rfl) (by first | exact Or.inl rfl | exact Or.inr rfl)) (pgs_cons (pgN (i := 6) sc_l_least_costs.nd rfl (by first | exact Or.inl rfl | exact Or.inr rfl) (by first | exact Or.inl rfl | exact Or.inr rfl)) pgs_nil))) (pss_cons (ps_set (i := 7) sc_l_least_costs.nd rfl (by first | exact Or.inl rfl | exact Or.inr rfl) pe_dnewT (hf := (by first | exact Or.inl rfl | exact Or.inr rfl)))
      (pss_cons (ps_for (g := (gName 8)) PassesOwn.never rfl (pi_range1 (by rfl) B.range (pa_cons (pv 3) pa_nil)) (pgN (i := 8) sc_l_least_costs.nd rfl (by first | exact Or.inl rfl | exact Or.inr rfl) (by first | exact Or.inl rfl | exact Or.inr rfl)) (pss_cons (ps_set (i := 9) sc_l_least_costs.nd rfl (by first | exact Or.inl rfl | exact Or.inr rfl) (pe_callC C_l_price (hr.mono (by decide)) (by rfl) (pa_cons (pv 0) (pa_cons (pv 1) (pa_cons (pv 3) (pa_cons (pv 5) (pa_cons (pv 8) pa_nil)))))) (hf := (by first | exact Or.inl rfl | exact Or.inr rfl)))
      (pss_cons (ps_if (pt_cmp (pc_isN (pv 9))) (pss_one ps_continue) pss_nil)
      (pss_cons (ps_set (i := 10) sc_l_least_costs.nd rfl (by first | exact Or.inl rfl | exact Or.inr rfl) (pe_callC C_l_row_times (hr.mono (by decide)) (by rfl) (pa_cons (pv 8) (pa_cons (pv 6) (pa_cons (pv 3) pa_nil)))) (hf := (by first | exact Or.inl rfl | exact Or.inr rfl)))
      (pss_one (ps_lock (ps_for (g := (gName 11)) PassesOwn.never rfl (pi_keys (pv 4)) (pgN (i := 11) sc_l_least_costs.nd rfl (by first | exact Or.inl rfl | exact Or.inr rfl) (by first | exact Or.inl rfl | exact Or.inr rfl)) (pss_cons (ps_par (i := 12) (j := 13) rfl sc_l_least_costs.nd rfl rfl (by decide) rfl rfl (pa_cons (pe_callC C_l_row_plus (hr.mono (by decide)) (by rfl) (pa_cons (pv 11) (pa_cons (pv 10) (pa_cons (pv 3) pa_nil)))) (pa_cons (pe_op op_add (pe_dget (hu1 hr.units) (pv 4) (pv 11) (fun _ _ => rfl)) (pv 9)) pa_nil)) (by rfl))
      (pss_one (ps_if (PW.pt (pw_or (pt_cmp (pc_dnotin (hu1 hr.units) (pv 12) (pv 7))) (pw_or1 (pt_cmpR op_lt (pv 13) (pe_dget (hu1 hr.units) (pv 7) (pv 12) (fun _ _ => rfl)) (nomark _))))) (pss_one (ps_dput (hu1 hr.units) (pv 7) (pv 12) (pv 13) rfl)) pss_nil))))))))))
      (pss_one (ps_set (i := 4) sc_l_least_costs.nd rfl (by first | exact Or.inl rfl | exact Or.inr rfl) (pv 7) (hf := (by first | exact Or.inl rfl | exact Or.inr rfl)))))))
      (pss_one (ps_ret (pv 4))))), ?_⟩), hm, F.kp, F.bindsN hbn⟩
  · obtain ⟨ds, P, G, _, r, ⟨p, n, top, rs, ps, k, rfl, _⟩, _⟩ := h
    rw [dpa_len r]
    rfl
  · obtain ⟨ds, P, G, hx, r, ⟨p, n, top, rs, ps, k, rfl, hp, hk, hP, hpr, rfl⟩, q⟩ := h
    cases r with
    | cons r0 r =>
      cases r with
      | cons r1 r =>
        cases r with
        | cons r2 r =>
          cases r
          rename_i v0 v1 v2
          have En : ∀ {H1 : Hp}, Ex G H1 → EnvD K none 0 [.val (picD top rs), .val (pricesD ps), .val (keyD k), .un, .un, .un, .un, .un, .un, .un, .un, .un, .un, .un] [some v0, some v1, some v2, none, none, none, none, none, none, none, none, none, none, none] G H1 := fun h =>
            env_all (.val r0 (.val r1 (.val r2 (.un (.un (.un (.un (.un (.un (.un (.un (.un (.un (.un .nil)))))))))))))) h
          have hkm := hk.mm
          refine XD.run (d := .int (p : Int)) ((xd_op (xd_var rfl) xd_int (rd_ixT (ds := [.int k.p, .int k.m, rowsD k.cols]) (i := 0) (d := .int k.p) rfl)).is (by rw [hk.pp])) (En hx) fun w1 G1 H1 t1 rw1 => ?_
          cases rw1
          intro F hF
          have hx1 : Ex G (upd H1 F (.dT [])) := (t1.gg.trans t1.ex).trans (Ex.new hF)
          refine XD.run (d := rowD (List.replicate k.m 0)) (xd_op (xd_tup1 PyData.int xd_int) (xd_op (xd_var rfl) xd_int (rd_ixT (ds := [.int k.p, .int k.m, rowsD k.cols]) (i := 1) (d := .int k.m) rfl)) (rd_repE (by omega))) (En hx1) fun w2 G2 H2 t2 rw2 => ?_
          obtain ⟨b, rfl, gb⟩ := row_at rw2
          have hF2 : H2 F = some (.dT []) := t2.fr F _ (fun z => nomatch z) upd_same
          have hh1 : Ex H H1 := fun a u e => t1.fr a u (fun z => nomatch z) e
          have nF : H F = none := hh1.free hF
          have gF : G F = none := hx.free nF
          refine ⟨hF2, _, b, rfl, t2.ex _ _ gb, _, _, rfl, ?_⟩
          refine lc_cells (G := G) (H0 := H) hp hk hP hpr r0 r1 r2 ⟨F, _, none, none, none, none, none, none, none, none, none, rfl, fun a u e => ?_, fun a u e => ?_, upd_same, gF, nF, ?_, Nat.le_refl 1⟩ ?_
          · rw [upd_ne (fun z => by rw [z, gF] at e; cases e)]
            exact t2.ex a u (t2.gg a u e)
          · rw [upd_ne (fun z => by rw [z, nF] at e; cases e)]
            refine t2.fr a u (fun z => nomatch z) ?_
            rw [upd_ne (fun z => by rw [z, nF] at e; cases e)]
            exact hh1 a u e
          · refine ⟨by simp, fun kk => ?_, fun kv hkv => ?_⟩
            · simp only [List.map_cons, List.map_nil, List.mem_singleton]
              exact ⟨fun e => ⟨_, e, rfl⟩, fun ⟨r, e1, e2⟩ => by rw [e1, show r = _ from e2]⟩
            · simp only [List.mem_singleton] at hkv
              exact ⟨0, by rw [hkv]⟩
          · rintro σ' H' ⟨F', kf', s5, s6, s7, s8, s9, s10, s11, s12, s13, rfl, hx', hh', hF', gF', nF', iF', hB'⟩
            refine ⟨_, rfl, ?_⟩
            exact q F' kf' G H' ⟨Ex.refl _, hx', hh', fun _ _ e => e⟩ hF' iF'
end
end Dry

set_option Elab.async false
set_option linter.all false
set_option maxRecDepth 100000
set_option maxHeartbeats 4000000
namespace Dry
open PySem PySem.Spec PyProof.Rows L2 RZ
section
variable {P : Program} {w : World} {K : PySem.W.Frag} {mg : Str → Option Value} {base : Heap}
theorem paired_dig {α : Type} {p : Nat} {xs : List α} {z : List PyData} (h : Paired (fun _ d => ∃ i : Nat, i < p ∧ d = .int (i : Int)) xs z) : ∃ r : List Int, z = r.map PyData.int ∧ r.length = xs.length ∧ Dig p r := by
  induction h with
  | nil => exact ⟨[], rfl, rfl, fun x hx => by simp at hx⟩
  | @cons a b as bs h t ih =>
    obtain ⟨r, e1, e2, e3⟩ := ih
    obtain ⟨i, hi, rfl⟩ := h
    refine ⟨(i : Int) :: r, by simp [e1], by simp [e2], fun x hx => ?_⟩
    rcases List.mem_cons.mp hx with rfl | hx
    · omega
    · exact e3 x hx
theorem paired_pr {α : Type} {L : List PyData} (hL : ∀ d ∈ L, ∃ o : Option Int, d = prD o ∧ ∀ w, o = some w → 0 ≤ w ∧ w ≤ 100) {xs : List α} {z : List PyData} (h : Paired (fun _ d => d ∈ L) xs z) : ∃ ps : List (Option Int), z = ps.map prD ∧ PrOk2 ps xs.length := by
  induction h with
  | nil => exact ⟨[], rfl, rfl, fun x hx => by simp at hx⟩
  | @cons a b as bs h t ih =>
    obtain ⟨r, e1, e2, e3⟩ := ih
    obtain ⟨o, rfl, ho⟩ := hL b h
    refine ⟨o :: r, by simp [e1], by simp [e2], fun w hw => ?_⟩
    rcases List.mem_cons.mp hw with e | hw
    · exact ho w e.symm
    · exact e3 w hw
theorem chunk_take {w : Nat} {gs : List Int} : ∀ j, ((List.range j).map fun k => (gs.take ((k + 1) * w)).drop (k * w)).flatten = gs.take (j * w)
  | 0 => by simp
  | j + 1 => by
    rw [List.range_succ, List.map_append, List.flatten_append, chunk_take j]
    simp only [List.map_cons, List.map_nil, List.flatten_cons, List.flatten_nil, List.append_nil]
    have h : gs.take (j * w) = (gs.take ((j + 1) * w)).take (j * w) := by
      rw [List.take_take, Nat.min_eq_left (Nat.mul_le_mul_right w (Nat.le_succ j))]
    rw [h, List.take_append_drop]
theorem xb_tupC {K : PySem.W.Frag} {te : TE} {δ : List Sl} {n n1 : Nat} {PL : List PyData → Prop} (h : XN K te δ n n1 PL) : XB K (tCB (fun xs H Q => ∃ p ys, xs = [V.ref p] ∧ ((SqL K H p ys ∧ ∀ l, H l = none → Q (.ref l) (upd H l (.tup ys))) ∨ (SqT K H p ys ∧ Q (.ref p) H))) (tCons te tNil)) δ n n1 (fun z => ∃ ds, z = .tuple ds ∧ PL ds) :=
  xb_cb (PL := fun z => ∃ ds, z = [.list ds] ∧ PL ds) ((xa_cons h.xb xa_nil).imp (Nat.le_refl _) fun z ⟨d, es, e1, ⟨ds, e2, hp⟩, e3⟩ => ⟨ds, by rw [e1, e2, e3], hp⟩) fun ds ⟨es, e, hp⟩ => by
    subst e
    intro vs bx n' δ σ G H E r Q q
    exact rc_tupleL vs bx n' δ σ G H E r Q fun v f G' H' t r e => q v f G' H' t r ⟨es, e, hp⟩
theorem sc_l_message : FnScope ["_law_tin", "_law_key_so", "_law_lap"] ["_law_tin", "_law_key_so"] (defScope s_l_message) := ⟨rfl, rfl, rfl, by decide +kernel, rfl, by decide +kernel, by decide +kernel⟩
abbrev lv_l_message : Nat := 2
def dom_l_message : List PyData → Nat → (PyData → Prop) → Prop := fun ds0 c0 P0 => ∃ (p nc : Nat) (k : Ky), ds0 = [keyD k] ∧ (p = 2 ∨ p = 3) ∧ (KOk p nc k) ∧ c0 = 0 + k.m ∧ P0 = (fun z => ∃ r : List Int, z = rowD r ∧ r.length = k.m ∧ Dig p r)
abbrev sp_l_message (K : PySem.W.Frag) : Sp := SpB K dom_l_message
theorem xc_l_message {K : PySem.W.Frag} {tr : TA} {δ : List Sl} {nn ii : Nat} {p nc : Nat} {k : Ky} (hi : δ[ii]? = some .box) (h0 : XAD K tr δ [keyD k]) (hp : p = 2 ∨ p = 3) (h1 : KOk p nc k) (hc : nn + (0 + k.m) ≤ 2 ^ 50) : XB K (tCall (sp_l_message K) [] E0 (tCons (tVar ii) tr)) δ nn (nn + (0 + k.m)) (fun z => ∃ r : List Int, z = rowD r ∧ r.length = k.m ∧ Dig p r) := xb_callB hi (h0 nn) (fun es e => by rw [e]; exact ⟨_, _, _, rfl, hp, h1, rfl, rfl⟩) hc
theorem ok_l_message (D : Df K mg "_law_message" s_l_message) (B : Bi mg) (C_l_take : Call1 P w K mg base CX0 lv_l_take "_law_take" (sp_l_take K)) : Call1 P w K mg base CX0 lv_l_message "_law_message" (sp_l_message K) := by
  refine fun_okB (k := 1) (N := ["_law_tin", "_law_key_so", "_law_lap"]) (ps := ["_law_tin", "_law_key_so"]) D sc_l_message (by simp) (fun ds0 c0 P0 hd => by obtain ⟨p, nc, k, rfl, hp, h1, rfl, rfl⟩ := hd; rfl) (fun _ _ _ _ _ _ us hl => match us, hl with | [_, _], _ => rfl) fun f cdv A outer s H E hr => ⟨_, 
    (pss_one (ps_ret (pe_callTy (cTuple (K := K)) (by rfl) B.tuple (by decide +kernel) (pa_cons (pe_lc (own := [("_law_lap", 2)]) (g := (gName 2)) (tt := tYes) rfl sc_l_message.nd (pi_range1 (by rfl) B.range (pa_cons (pe_ix (ixT (K := K)) (pv 1) pe_int (fun _ _ => rfl)) pa_nil)) (blkOk_by (N := ["_law_tin", "_law_key_so", "_law_lap"]) (sc := defScope s_l_message) (by decide +kernel)) (fun _ _ _ _ _ => (pgN (i := 2) sc_l_message.nd rfl (by first | exact Or.inl rfl | exact Or.inr rfl) (by first | exact Or.inl rfl | exact Or.inr rfl))) (fun _ _ _ _ _ => pts_nil) (fun _ _ _ _ _ => (pe_callC C_l_take (hr.mono (by decide)) (by rfl) (pa_cons (pv 0) (pa_cons (pe_ix (ixT (K := K)) (pv 1) pe_int (fun _ _ => rfl)) pa_nil))))) pa_nil)))), fun ds0 c0 P0 n hd hn => ?_⟩
  obtain ⟨p, nc, k, rfl, hp, h1, rfl, rfl⟩ := hd
  have hm := h1.mm
  have hpp := h1.pp
  refine sj_ret (xb_tupC (xn_lcDraw (c := 1) (n2 := n + k.m) (xs := List.range k.m) (A := fun i : Nat => PyData.int (i : Int)) (R := fun _ d => ∃ i : Nat, i < p ∧ d = .int (i : Int)) (js := [2]) (xid_rangeN (xad_cons (xd_op (xd_var rfl) xd_int (rd_ixT rfl)) xad_nil) (by omega) _) (by simp) (by simp; omega) (fun x hx => xg_name) (fun x hx m hm' => (xc_l_take (m := p) rfl (xad_cons ((xd_op (xd_var rfl) xd_int (rd_ixT rfl)).is (by rw [hpp])) xad_nil) (by omega) (by omega))) (by simp))) (fun d ⟨ds, e, hd⟩ => ⟨by omega, ?_⟩)
  obtain ⟨r, e1, e2, e3⟩ := paired_dig hd
  exact ⟨r, by rw [e, e1], by simpa using e2, e3⟩
theorem sc_l_prices : FnScope ["_law_tin", "_law_many_so", "_law_kind_so", "_law_lap"] ["_law_tin", "_law_many_so"] (defScope s_l_prices) := ⟨rfl, rfl, rfl, by decide +kernel, rfl, by decide +kernel, by decide +kernel⟩
abbrev lv_l_prices : Nat := 3
def dom_l_prices : List PyData → Nat → (PyData → Prop) → Prop := fun ds0 c0 P0 => ∃ (m : Nat), ds0 = [.int m] ∧ (m ≤ 10) ∧ c0 = 2 + m ∧ P0 = (fun z => ∃ ps : List (Option Int), z = pricesD ps ∧ PrOk2 ps m)
abbrev sp_l_prices (K : PySem.W.Frag) : Sp := SpB K dom_l_prices
theorem xc_l_prices {K : PySem.W.Frag} {tr : TA} {δ : List Sl} {nn ii : Nat} {m : Nat} (hi : δ[ii]? = some .box) (h0 : XAD K tr δ [.int m]) (h1 : m ≤ 10) (hc : nn + (2 + m) ≤ 2 ^ 50) : XB K (tCall (sp_l_prices K) [] E0 (tCons (tVar ii) tr)) δ nn (nn + (2 + m)) (fun z => ∃ ps : List (Option Int), z = pricesD ps ∧ PrOk2 ps m) := xb_callB hi (h0 nn) (fun es e => by rw [e]; exact ⟨_, rfl, h1, rfl, rfl⟩) hc
theorem ok_l_prices (D : Df K mg "_law_prices" s_l_prices) (B : Bi mg) (C_l_of : Call1 P w K mg base CX0 lv_l_of "_law_of" (sp_l_of K)) (C_l_take : Call1 P w K mg base CX0 lv_l_take "_law_take" (sp_l_take K)) : Call1 P w K mg base CX0 lv_l_prices "_law_prices" (sp_l_prices K) := by
  refine fun_okB (k := 2) (N := ["_law_tin", "_law_many_so", "_law_kind_so", "_law_lap"]) (ps := ["_law_tin", "_law_many_so"]) D sc_l_prices (by simp) (fun ds0 c0 P0 hd => by obtain ⟨m, rfl, h1, rfl, rfl⟩ := hd; rfl) (fun _ _ _ _ _ _ us hl => match us, hl with | [_, _], _ => rfl) fun f cdv A outer s H E hr => ⟨_, 
    (pss_cons (ps_set (i := 2) sc_l_prices.nd rfl (by first | exact Or.inl rfl | exact Or.inr rfl) (pe_callC C_l_take (hr.mono (by decide)) (by rfl) (pa_cons (pv 0) (pa_cons pe_int pa_nil))) (hf := (by first | exact Or.inl rfl | exact Or.inr rfl)))
      (pss_cons (ps_if (pt_cmpR op_eq (pv 2) pe_int (nomark _)) (pss_one (ps_ret (pe_callTy (cTuple (K := K)) (by rfl) B.tuple (by decide +kernel) (pa_cons (pe_lc (own := [("_law_lap", 3)]) (g := (gName 3)) (tt := tYes) rfl sc_l_prices.nd (pi_range1 (by rfl) B.range (pa_cons (pv 1) pa_nil)) (blkOk_by (N := ["_law_tin", "_law_many_so", "_law_kind_so", "_law_lap"]) (sc := defScope s_l_prices) (by decide +kernel)) (fun _ _ _ _ _ => (pgN (i := 3) sc_l_prices.nd rfl (by first | exact Or.inl rfl | exact Or.inr rfl) (by first | exact Or.inl rfl | exact Or.inr rfl))) (fun _ _ _ _ _ => pts_nil) (fun _ _ _ _ _ => (pe_callC C_l_of (hr.mono (by decide)) (by rfl) (pa_cons (pv 0) (pa_cons (pe_lst (pa_cons pe_non (pa_cons pe_non (pa_cons pe_non (pa_cons pe_int pa_nil))))) pa_nil))))) pa_nil)))) pss_nil)
      (pss_cons (ps_if (pt_cmpR op_eq (pv 2) pe_int (nomark _)) (pss_one (ps_ret (pe_op (opRepT (K := K)) (pe_tup (pa_cons (pe_callC C_l_take (hr.mono (by decide)) (by rfl) (pa_cons (pv 0) (pa_cons pe_int pa_nil))) pa_nil)) (pv 1)))) pss_nil)
      (pss_one (ps_ret (pe_callTy (cTuple (K := K)) (by rfl) B.tuple (by decide +kernel) (pa_cons (pe_lc (own := [("_law_lap", 3)]) (g := (gName 3)) (tt := tYes) rfl sc_l_prices.nd (pi_range1 (by rfl) B.range (pa_cons (pv 1) pa_nil)) (blkOk_by (N := ["_law_tin", "_law_many_so", "_law_kind_so", "_law_lap"]) (sc := defScope s_l_prices) (by decide +kernel)) (fun _ _ _ _ _ => (pgN (i := 3) sc_l_prices.nd rfl (by first | exact Or.inl rfl | exact Or.inr rfl) (by first | exact Or.inl rfl | exact Or.inr rfl))) (fun _ _ _ _ _ => pts_nil) (fun _ _ _ _ _ => (pe_callC C_l_of (hr.mono (by decide)) (by rfl) (pa_cons (pv 0) (pa_cons (pe_lst (pa_cons pe_int (pa_cons pe_int (pa_cons pe_non (pa_cons pe_int (pa_cons pe_int (pa_cons pe_int (pa_cons pe_int pa_nil)))))))) pa_nil))))) pa_nil))))))), fun ds0 c0 P0 n hd hn => ?_⟩
  obtain ⟨m, rfl, h1, rfl, rfl⟩ := hd
  refine sj_seq (sj_asg (xc_l_take (m := 6) rfl (xad_cons xd_int xad_nil) (by omega) (by omega)) fun d ⟨kind, hk, e⟩ => ?_)
  subst e
  refine sj_seq (sj_if (XT.is (xt_test (xd_op (xd_var rfl) xd_int rd_eqI)) rfl) (fun _ => ?_) (fun _ => sj_next ?_))
  · refine sj_ret (xb_tupC (xn_lcDraw (c := 1) (n2 := n + 1 + m) (xs := List.range m) (A := fun i : Nat => PyData.int (i : Int)) (R := fun _ d => d ∈ [.none, .none, .none, .int 1]) (js := [3]) (xid_rangeN (xad_cons (xd_var rfl) xad_nil) (by omega) _) (by simp) (by simp; omega) (fun x hx => xg_name) (fun x hx m' hm' => (xc_l_of rfl (xad_cons (xd_lst (xad_cons xd_non (xad_cons xd_non (xad_cons xd_non (xad_cons xd_int xad_nil)))) (by simp)) xad_nil) ⟨by simp, by simp⟩ (by omega))) (by simp))) (fun d ⟨ds, e, hd⟩ => ⟨by omega, ?_⟩)
    obtain ⟨ps, e1, e2⟩ := paired_pr (fun d hd => by
      simp only [List.mem_cons, List.not_mem_nil, or_false] at hd
      rcases hd with rfl | rfl | rfl | rfl
      · exact ⟨none, rfl, fun _ z => nomatch z⟩
      · exact ⟨none, rfl, fun _ z => nomatch z⟩
      · exact ⟨none, rfl, fun _ z => nomatch z⟩
      · exact ⟨some 1, rfl, fun w e => by cases e; omega⟩) hd
    exact ⟨ps, by rw [e, e1], by simpa using e2⟩
  · refine sj_seq (sj_if (XT.is (xt_test (xd_op (xd_var rfl) xd_int rd_eqI)) rfl) (fun _ => ?_) (fun _ => sj_next ?_))
    · refine sj_ret (n1 := n + 2) (P := fun z => ∃ i : Nat, i < 2 ∧ z = .tuple ((List.replicate m (i : Int)).map PyData.int)) (xb_op (n1 := n + 2) (P := fun z => ∃ i : Nat, i < 2 ∧ z = .tuple ([((i : Nat) : Int)].map PyData.int)) (P' := fun z => z = .int (m : Nat)) ((xb_tup (xa_cons (xc_l_take (m := 2) rfl (xad_cons xd_int xad_nil) (by omega) (by omega)) xa_nil) (fun ds ⟨d, es, e1, e2, e3⟩ => by rw [e1, e3]; simp)).imp (Nat.le_refl _) (fun z ⟨ds, e0, d, es, e1, ⟨i, hi, e2⟩, e3⟩ => ⟨i, hi, by rw [e0, e1, e2, e3]; rfl⟩)) (xd_var rfl _) (fun d e ⟨i, hi, e1⟩ e2 => ?_)) (fun d ⟨i, hi, e⟩ => ⟨by omega, List.replicate m (some (i : Int)), by rw [e, List.map_replicate]; simp [prD], by simp, fun w hw => ?_⟩)
      · subst e1 e2
        intro x' y' bx n' δ σ G H E r1 r2 Q q
        exact rd_repE (by omega) x' y' bx n' δ σ G H E r1 r2 Q fun v f G' H' t r e => q v f G' H' t r ⟨i, hi, e⟩
      · rw [List.mem_replicate] at hw
        cases hw.2
        omega
    · refine sj_ret (xb_tupC (xn_lcDraw (c := 1) (n2 := n + 1 + m) (xs := List.range m) (A := fun i : Nat => PyData.int (i : Int)) (R := fun _ d => d ∈ [.int 1, .int 2, .none, .int 3, .int 0, .int 1, .int 5]) (js := [3]) (xid_rangeN (xad_cons (xd_var rfl) xad_nil) (by omega) _) (by simp) (by simp; omega) (fun x hx => xg_name) (fun x hx m' hm' => (xc_l_of rfl (xad_cons (xd_lst (xad_cons xd_int (xad_cons xd_int (xad_cons xd_non (xad_cons xd_int (xad_cons xd_int (xad_cons xd_int (xad_cons xd_int xad_nil))))))) (by simp)) xad_nil) ⟨by simp, by simp⟩ (by omega))) (by simp))) (fun d ⟨ds, e, hd⟩ => ⟨by omega, ?_⟩)
      obtain ⟨ps, e1, e2⟩ := paired_pr (fun d hd => by
        simp only [List.mem_cons, List.not_mem_nil, or_false] at hd
        rcases hd with rfl | rfl | rfl | rfl | rfl | rfl | rfl
        · exact ⟨some 1, rfl, fun w e => by cases e; omega⟩
        · exact ⟨some 2, rfl, fun w e => by cases e; omega⟩
        · exact ⟨none, rfl, fun _ z => nomatch z⟩
        · exact ⟨some 3, rfl, fun w e => by cases e; omega⟩
        · exact ⟨some 0, rfl, fun w e => by cases e; omega⟩
        · exact ⟨some 1, rfl, fun w e => by cases e; omega⟩
        · exact ⟨some 5, rfl, fun w e => by cases e; omega⟩) hd
      exact ⟨ps, by rw [e, e1], by simpa using e2⟩
theorem sc_l_picture : FnScope ["_law_tin", "_law_many_so", "_law_top_so", "_law_tall_so", "_law_greys_so", "_law_lap", "_law_k"] ["_law_tin", "_law_many_so"] (defScope s_l_picture) := ⟨rfl, rfl, rfl, by decide +kernel, rfl, by decide +kernel, by decide +kernel⟩
abbrev lv_l_picture : Nat := 3
def dom_l_picture : List PyData → Nat → (PyData → Prop) → Prop := fun ds0 c0 P0 => ∃ (m : Nat), ds0 = [.int m] ∧ (1 ≤ m ∧ m ≤ 10) ∧ c0 = 2 + m ∧ P0 = (fun z => ∃ (top : Nat) (rs : List (List Int)), z = picD top rs ∧ PicOk top m rs)
abbrev sp_l_picture (K : PySem.W.Frag) : Sp := SpB K dom_l_picture
theorem xc_l_picture {K : PySem.W.Frag} {tr : TA} {δ : List Sl} {nn ii : Nat} {m : Nat} (hi : δ[ii]? = some .box) (h0 : XAD K tr δ [.int m]) (h1 : 1 ≤ m ∧ m ≤ 10) (hc : nn + (2 + m) ≤ 2 ^ 50) : XB K (tCall (sp_l_picture K) [] E0 (tCons (tVar ii) tr)) δ nn (nn + (2 + m)) (fun z => ∃ (top : Nat) (rs : List (List Int)), z = picD top rs ∧ PicOk top m rs) := xb_callB hi (h0 nn) (fun es e => by rw [e]; exact ⟨_, rfl, h1, rfl, rfl⟩) hc
theorem ok_l_picture (D : Df K mg "_law_picture" s_l_picture) (B : Bi mg) (C_l_of : Call1 P w K mg base CX0 lv_l_of "_law_of" (sp_l_of K)) (C_l_shaped : Call1 P w K mg base CX0 lv_l_shaped "_law_shaped" (sp_l_shaped K)) (C_l_take : Call1 P w K mg base CX0 lv_l_take "_law_take" (sp_l_take K)) : Call1 P w K mg base CX0 lv_l_picture "_law_picture" (sp_l_picture K) := by
  refine fun_okB (k := 2) (N := ["_law_tin", "_law_many_so", "_law_top_so", "_law_tall_so", "_law_greys_so", "_law_lap", "_law_k"]) (ps := ["_law_tin", "_law_many_so"]) D sc_l_picture (by simp) (fun ds0 c0 P0 hd => by obtain ⟨m, rfl, h1, rfl, rfl⟩ := hd; rfl) (fun _ _ _ _ _ _ us hl => match us, hl with | [_, _], _ => rfl) fun f cdv A outer s H E hr => ⟨_, 
    (pss_cons (ps_set (i := 2) sc_l_picture.nd rfl (by first | exact Or.inl rfl | exact Or.inr rfl) (pe_callC C_l_of (hr.mono (by decide)) (by rfl) (pa_cons (pv 0) (pa_cons (pe_lst (pa_cons pe_int (pa_cons pe_int (pa_cons pe_int (pa_cons pe_int (pa_cons pe_int (pa_cons pe_int pa_nil))))))) pa_nil))) (hf := (by first | exact Or.inl rfl | exact Or.inr rfl)))
      (pss_cons (ps_set (i := 3) sc_l_picture.nd rfl (by first | exact Or.inl rfl | exact Or.inr rfl) (pe_callC C_l_of (hr.mono (by decide)) (by rfl) (pa_cons (pv 0) (pa_cons (pe_lc (own := [("_law_k", 6)]) (g := (gName 6)) rfl sc_l_picture.nd (pi_range2 (by rfl) B.range (pa_cons pe_int (pa_cons (pe_op op_add (pv 1) pe_int) pa_nil))) (blkOk_by (N := ["_law_tin", "_law_many_so", "_law_top_so", "_law_tall_so", "_law_greys_so", "_law_lap", "_law_k"]) (sc := defScope s_l_picture) (by decide +kernel)) (fun _ _ _ _ _ => (pgN (i := 6) sc_l_picture.nd rfl (by first | exact Or.inl rfl | exact Or.inr rfl) (by first | exact Or.inl rfl | exact Or.inr rfl))) (fun _ _ _ _ _ => (pts_one (pt_cmpR op_eq (pe_op op_mod (pv 1) (pv 6)) pe_int (nomark _)))) (fun _ _ _ _ _ => (pv 6))) pa_nil))) (hf := (by first | exact Or.inl rfl | exact Or.inr rfl)))
      (pss_cons (ps_setLc (i := 4) (own := [("_law_lap", 5)]) (g := (gName 5)) (tt := tYes) rfl sc_l_picture.nd rfl rfl (sw_true rfl rfl rfl (by decide +kernel)) (pi_range1 (by rfl) B.range (pa_cons (pv 1) pa_nil)) (blkOk_by (N := ["_law_tin", "_law_many_so", "_law_top_so", "_law_tall_so", "_law_greys_so", "_law_lap", "_law_k"]) (sc := defScope s_l_picture) (by decide +kernel)) (fun _ _ _ _ _ => (pgN (i := 5) sc_l_picture.nd rfl (by first | exact Or.inl rfl | exact Or.inr rfl) (by first | exact Or.inl rfl | exact Or.inr rfl))) (fun _ _ _ _ _ => pts_nil) (fun _ _ _ _ _ => (pe_callC C_l_take (hr.mono (by decide)) (by rfl) (pa_cons (pv 0) (pa_cons (pe_op op_add (pv 2) pe_int) pa_nil)))))
      (pss_one (ps_ret (pe_callC C_l_shaped (hr.mono (by decide)) (by rfl) (pa_cons (pe_tup (pa_cons (pv 2) (pa_cons (pe_op (opRepT (K := K)) (pe_tup (pa_cons (pe_op (opRepT (K := K)) (pe_tup (pa_cons pe_int pa_nil)) (pe_op op_fdiv (pv 1) (pv 3))) pa_nil)) (pv 3)) pa_nil))) (pa_cons (pv 4) pa_nil)))))))), fun ds0 c0 P0 n hd hn => ?_⟩
  obtain ⟨m, rfl, h1, rfl, rfl⟩ := hd
  refine sj_seq (sj_asg (P := fun z => ∃ t : Nat, (3 ≤ t ∧ t ≤ 100) ∧ z = .int (t : Int)) ((xc_l_of rfl (xad_cons (xd_lst (xad_cons xd_int (xad_cons xd_int (xad_cons xd_int (xad_cons xd_int (xad_cons xd_int (xad_cons xd_int xad_nil)))))) (by simp)) xad_nil) ⟨by simp, by simp⟩ (by omega)).imp (Nat.le_refl _) (fun d hd => ?_)) fun d ⟨top, ht, e⟩ => ?_)
  · simp only [List.mem_cons, List.not_mem_nil, or_false] at hd
    rcases hd with rfl | rfl | rfl | rfl | rfl | rfl
    · exact ⟨4, by omega, rfl⟩
    · exact ⟨5, by omega, rfl⟩
    · exact ⟨7, by omega, rfl⟩
    · exact ⟨9, by omega, rfl⟩
    · exact ⟨4, by omega, rfl⟩
    · exact ⟨30, by omega, rfl⟩
  subst e
  have hr : ((m : Int) + 1 - 1).toNat = m := by omega
  refine sj_seq (sj_asg (P := fun z => ∃ t : Nat, (1 ≤ t ∧ t ≤ m ∧ m % t = 0) ∧ z = .int (t : Int)) ((xc_l_of (ds := ((List.range m).filter fun i => decide ((m : Int) % (1 + ((i : Nat) : Int)) = 0)).map fun i : Nat => PyData.int (1 + (i : Int))) rfl (xad_cons (xd_lcFil (xs := List.range m) (A := fun i : Nat => PyData.int (1 + (i : Int))) (js := [6]) ((xid_range2 (xad_cons xd_int (xad_cons (xd_op (xd_var rfl) xd_int rd_I0) xad_nil)) (by omega) (by omega)).is (by unfold rgD; rw [hr])) (by simp) (by simp; omega) (fun x hx => xg_name) (fun x hx => (xt_test (xd_op (xd_op (xd_var rfl) (xd_var rfl) (rd_I (by omega))) xd_int rd_eqI))) (fun x hx hb => (xd_var rfl))) xad_nil) ⟨?_, ?_⟩ (by omega)).imp (Nat.le_refl _) (fun d hd => ?_)) fun d ⟨tall, hta, e⟩ => ?_)
  · rw [ne_eq, List.map_eq_nil_iff, List.filter_eq_nil_iff]
    intro h
    exact h 0 (by simp; omega) (by simp [Int.emod_one])
  · rw [List.length_map]
    refine Nat.le_trans (List.length_filter_le _ _) ?_
    simp
    omega
  · obtain ⟨i, hi, rfl⟩ := List.mem_map.mp hd
    obtain ⟨h2, h3⟩ := List.mem_filter.mp hi
    have h3 := of_decide_eq_true h3
    simp at h2
    refine ⟨i + 1, ⟨by omega, by omega, ?_⟩, by congr 1; omega⟩
    have : ((m % (i + 1) : Nat) : Int) = 0 := by rw [Int.natCast_emod]; rw [← h3]; congr 1; omega
    omega
  subst e
  refine sj_seq (sj_asg (P := fun z => ∃ gs : List Int, z = .list (gs.map PyData.int) ∧ gs.length = m ∧ Dig (top + 1) gs) ((xn_lcDraw (c := 1) (n2 := n + 2 + m) (xs := List.range m) (A := fun i : Nat => PyData.int (i : Int)) (R := fun _ d => ∃ i : Nat, i < top + 1 ∧ d = .int (i : Int)) (js := [5]) (xid_rangeN (xad_cons (xd_var rfl) xad_nil) (by omega) _) (by simp) (by simp; omega) (fun x hx => xg_name) (fun x hx m' hm' => (xc_l_take (m := top + 1) rfl (xad_cons ((xd_op (xd_var rfl) xd_int rd_I0).is rfl) xad_nil) (by omega) (by omega))) (by simp)).xb.imp (Nat.le_refl _) (fun d ⟨ds, e, hd⟩ => ?_)) fun d ⟨gs, e, hgl, hgd⟩ => ?_)
  · obtain ⟨r, e1, e2, e3⟩ := paired_dig hd
    exact ⟨r, by rw [e, e1], by simpa using e2, e3⟩
  subst e
  have hdv : ((m : Nat) : Int) / ((tall : Nat) : Int) = ((m / tall : Nat) : Int) := by simp
  have hq : m / tall ≤ 10 := Nat.le_trans (Nat.div_le_self _ _) h1.2
  have hmul : tall * (m / tall) = m := Nat.mul_div_cancel' (Nat.dvd_of_mod_eq_zero hta.2.2)
  refine sj_retD (xc_l_shaped (rs := List.replicate tall (List.replicate (m / tall) 0)) (wide := m / tall) (xad_cons (xd_tup (xad_cons (xd_var rfl) (xad_cons (xd_op (xd_tup1 rowD (xd_op (xd_tup1 PyData.int xd_int) ((xd_op (xd_var rfl) (xd_var rfl) (rd_I ?_)).is (by rw [hdv])) (rd_repE ?_))) (xd_var rfl) (rd_repE ?_)) xad_nil)) (by simp)) (xad_cons (xd_var rfl) xad_nil)) ?_ ?_ ?_ ?_) ⟨by omega, top, _, rfl, ⟨ht.1, ht.2, ?_, ?_, h1.2, ?_⟩⟩
  · exact ⟨by omega, by omega⟩
  · omega
  · omega
  · simp; omega
  · simp; omega
  · rw [List.getD_eq_getElem?_getD, List.getElem?_replicate, if_pos (by omega)]
    simp
  · omega
  · simp; omega
  · rw [List.length_replicate, chunk_take, hmul, List.take_of_length_le (by omega)]
    exact hgl
  · rw [List.length_replicate, chunk_take, hmul, List.take_of_length_le (by omega)]
    intro g hg
    have := hgd g hg
    omega
end
end Dry

set_option Elab.async false
set_option linter.all false
set_option maxRecDepth 100000
set_option maxHeartbeats 4000000
namespace Dry
open PySem PySem.Spec PyProof.Rows L2 RZ
section
variable {P : Program} {w : World} {K : PySem.W.Frag} {mg : Str → Option Value} {base : Heap}
theorem dig_set {p : Nat} {r : List Int} {j : Nat} {x : Int} (h : Dig p r) (hx : 0 ≤ x ∧ x < (p : Int)) : Dig p (r.set j x) := fun y hy => by
  rcases List.mem_or_eq_of_mem_set hy with h1 | h1
  · exact h y h1
  · rw [h1]
    exact hx
theorem rep0 {m : Nat} : (List.replicate ((m : Nat) : Int).toNat [PyData.int 0]).flatten = (List.replicate m (0 : Int)).map PyData.int := by
  rw [Int.toNat_natCast]
  induction m with
  | zero => rfl
  | succ m ih => simp [List.replicate_succ, ih]
theorem dig_rep {p m : Nat} (hp : p = 2 ∨ p = 3) : Dig p (List.replicate m 0) := fun y hy => by
  rw [List.mem_replicate] at hy
  rw [hy.2]
  omega
theorem sc_l_band_key : FnScope ["_law_tin", "_law_p_so", "_law_cells_so", "_law_many_so", "_law_block_so", "_law_columns_so", "_law_j", "_law_lap", "_law_column_so", "_law_own", "_law_k", "_law_digit_so"] ["_law_tin", "_law_p_so", "_law_cells_so", "_law_many_so"] (defScope s_l_band_key) := ⟨rfl, rfl, rfl, by decide +kernel, rfl, by decide +kernel, by decide +kernel⟩
abbrev lv_l_band_key : Nat := 2
def dom_l_band_key : List PyData → Nat → (PyData → Prop) → Prop := fun ds0 c0 P0 => ∃ (p nc m : Nat), ds0 = [.int p, .int nc, .int m] ∧ (p = 2 ∨ p = 3) ∧ (nc ≤ 10) ∧ (1 ≤ m ∧ m ≤ 10) ∧ c0 = 5 ∧ P0 = (fun z => ∃ k : Ky, z = keyD k ∧ KOk p nc k ∧ k.m = m)
abbrev sp_l_band_key (K : PySem.W.Frag) : Sp := SpB K dom_l_band_key
theorem xc_l_band_key {K : PySem.W.Frag} {tr : TA} {δ : List Sl} {nn ii : Nat} {p nc m : Nat} (hi : δ[ii]? = some .box) (h0 : XAD K tr δ [.int p, .int nc, .int m]) (hp : p = 2 ∨ p = 3) (h1 : nc ≤ 10) (h2 : 1 ≤ m ∧ m ≤ 10) (hc : nn + (5) ≤ 2 ^ 50) : XB K (tCall (sp_l_band_key K) [] E0 (tCons (tVar ii) tr)) δ nn (nn + (5)) (fun z => ∃ k : Ky, z = keyD k ∧ KOk p nc k ∧ k.m = m) := xb_callB hi (h0 nn) (fun es e => by rw [e]; exact ⟨_, _, _, rfl, hp, h1, h2, rfl, rfl⟩) hc
theorem ok_l_band_key (D : Df K mg "_law_band_key" s_l_band_key) (B : Bi mg) (C_l_take : Call1 P w K mg base CX0 lv_l_take "_law_take" (sp_l_take K)) : Call1 P w K mg base CX0 lv_l_band_key "_law_band_key" (sp_l_band_key K) := by
  refine fun_okB (k := 1) (N := ["_law_tin", "_law_p_so", "_law_cells_so", "_law_many_so", "_law_block_so", "_law_columns_so", "_law_j", "_law_lap", "_law_column_so", "_law_own", "_law_k", "_law_digit_so"]) (ps := ["_law_tin", "_law_p_so", "_law_cells_so", "_law_many_so"]) D sc_l_band_key (by simp) (fun ds0 c0 P0 hd => by obtain ⟨p, nc, m, rfl, hp, h1, h2, rfl, rfl⟩ := hd; rfl) (fun _ _ _ _ _ _ us hl => match us, hl with | [_, _, _, _], _ => rfl) fun f cdv A outer s H E hr => ⟨_, 
    (pss_cons (ps_setLc (i := 4) (own := [("_law_lap", 7)]) (g := (gName 7)) (tt := tYes) rfl sc_l_band_key.nd rfl rfl (sw_true rfl rfl rfl (by decide +kernel)) (pi_range1 (by rfl) B.range (pa_cons (pe_op op_add pe_int (pe_callC C_l_take (hr.mono (by decide)) (by rfl) (pa_cons (pv 0) (pa_cons pe_int pa_nil)))) pa_nil)) (blkOk_by (N := ["_law_tin", "_law_p_so", "_law_cells_so", "_law_many_so", "_law_block_so", "_law_columns_so", "_law_j", "_law_lap", "_law_column_so", "_law_own", "_law_k", "_law_digit_so"]) (sc := defScope s_l_band_key) (by decide +kernel)) (fun _ _ _ _ _ => (pgN (i := 7) sc_l_band_key.nd rfl (by first | exact Or.inl rfl | exact Or.inr rfl) (by first | exact Or.inl rfl | exact Or.inr rfl))) (fun _ _ _ _ _ => pts_nil) (fun _ _ _ _ _ => (pe_callTy (cTuple (K := K)) (by rfl) B.tuple (by decide +kernel) (pa_cons (pe_lc (own := [("_law_k", 10)]) (g := (gName 10)) (tt := tYes) rfl sc_l_band_key.nd (pi_range1 (by rfl) B.range (pa_cons pe_int pa_nil)) (blkOk_by (N := ["_law_tin", "_law_p_so", "_law_cells_so", "_law_many_so", "_law_block_so", "_law_columns_so", "_law_j", "_law_lap", "_law_column_so", "_law_own", "_law_k", "_law_digit_so"]) (sc := { kind := .function, names := [(".0", .local), ("_law_lap", .local), ("tuple", .globalImplicit), ("range", .globalImplicit), ("_law_p_so", .cell), ("_law_tin", .cell)], isGenerator := false, isCoroutine := false }) (by decide +kernel)) (fun _ _ _ _ _ => (pgN (i := 10) sc_l_band_key.nd rfl (by first | exact Or.inl rfl | exact Or.inr rfl) (by first | exact Or.inl rfl | exact Or.inr rfl))) (fun _ _ _ _ _ => pts_nil) (fun _ _ _ _ _ => (pe_callC C_l_take (hr.mono (by decide)) (by rfl) (pa_cons (pv 0) (pa_cons (pv 1) pa_nil))))) pa_nil))))
      (pss_cons (ps_set (i := 5) sc_l_band_key.nd rfl (by first | exact Or.inl rfl | exact Or.inr rfl) (pe_lst pa_nil) (hf := (by first | exact Or.inl rfl | exact Or.inr rfl)))
      (pss_cons (ps_for (g := (gName 6)) PassesOwn.never rfl (pi_range1 (by rfl) B.range (pa_cons (pv 2) pa_nil)) (pgN (i := 6) sc_l_band_key.nd rfl (by first | exact Or.inl rfl | exact Or.inr rfl) (by first | exact Or.inl rfl | exact Or.inr rfl)) (pss_cons (ps_par (i := 8) (j := 9) rfl sc_l_band_key.nd rfl rfl (by decide) rfl rfl (pa_cons (pe_op op_rep (pe_lst (pa_cons pe_int pa_nil)) (pv 3)) (pa_cons (pe_ix (ixL (K := K)) (pv 4) (pe_op op_mod (pv 6) (pe_callB (cLen (K := K)) (by rfl) B.len PySem.boot_len (pa_cons (pv 4) pa_nil))) (fun _ _ => rfl)) pa_nil)) (by rfl))
      (pss_cons (ps_for (g := (gTup K 2 (gCons (gName 10) (gCons (gName 11) gNil)))) PassesOwn.never rfl (piEnumT (K := K) (by rfl) B.enumerate (pa_cons (pv 9) pa_nil)) (pgTup (K := K) rfl (pgs_cons (pgN (i := 10) sc_l_band_key.nd rfl (by first | exact Or.inl rfl | exact Or.inr rfl) (by first | exact Or.inl rfl | exact Or.inr rfl)) (pgs_cons (pgN (i := 11) sc_l_band_key.nd rfl (by first | exact Or.inl rfl | exact Or.inr rfl) (by first | exact Or.inl rfl | exact Or.inr rfl)) pgs_nil))) (pss_one (ps_if (pt_cmpR op_lt (pe_op op_add (pe_op op_fdiv (pv 6) (pe_callB (cLen (K := K)) (by rfl) B.len PySem.boot_len (pa_cons (pv 4) pa_nil))) (pv 10)) (pv 3) (nomark _)) (pss_one (ps_asg (pv 11) (pg_sub (pv 8) (pe_op op_add (pe_op op_fdiv (pv 6) (pe_callB (cLen (K := K)) (by rfl) B.len PySem.boot_len (pa_cons (pv 4) pa_nil))) (pv 10)) set_list))) pss_nil)))
      (pss_one (ps_expr (pe_bm PySem.F.plainAttrs_list PySem.F.slot_list_append PySem.F.type_list_append mt_append (pv 5) (pa_cons (pe_callTy (cTuple (K := K)) (by rfl) B.tuple (by decide +kernel) (pa_cons (pv 8) pa_nil)) pa_nil)))))))
      (pss_one (ps_ret (pe_tup (pa_cons (pv 1) (pa_cons (pv 3) (pa_cons (pe_callTy (cTuple (K := K)) (by rfl) B.tuple (by decide +kernel) (pa_cons (pv 5) pa_nil)) pa_nil))))))))), fun ds0 c0 P0 n hd hn => ?_⟩
  obtain ⟨p, nc, m, rfl, hp, h1, h2, rfl, rfl⟩ := hd
  refine sj_seq (sj_asg (P := fun z => ∃ bs : List (List Int), z = .list (bs.map rowD) ∧ (1 ≤ bs.length ∧ bs.length ≤ 2) ∧ ∀ b ∈ bs, b.length = 2 ∧ Dig p b) ((xn_lc (n1 := n + 1) (n2 := n + 5) (c := 2) (js := [7]) (f := fun _ i => [.box, .val (.int (p : Int)), .val (.int (nc : Int)), .val (.int (m : Int)), .un, .un, .un, .val (.int ((i : Nat) : Int)), .un, .un, .un, .un]) (keep := fun _ _ => true) (R := fun _ _ d => ∃ b : List Int, d = rowD b ∧ b.length = 2 ∧ Dig p b) (PI := fun items => ∃ kk : Nat, items = (List.range kk).map (fun i : Nat => PyData.int (i : Int)) ∧ 1 ≤ kk ∧ kk ≤ 2)
    (xi_range1 (PL := fun z => ∃ i : Nat, i < 2 ∧ z = [.int (1 + (i : Int))]) ((xa_cons (n1 := n + 1) (P := fun z => ∃ i : Nat, i < 2 ∧ z = .int (1 + (i : Int))) (xb_op (n1 := n) (P := fun z => z = .int 1) (xd_int _) (xc_l_take (m := 2) rfl (xad_cons xd_int xad_nil) (by omega) (by omega)) (fun d e hd ⟨i, hi, he⟩ => ?_)) xa_nil).imp (Nat.le_refl _) (fun z ⟨d, es, e1, ⟨i, hi, e2⟩, e3⟩ => ⟨i, hi, by rw [e1, e2, e3]⟩)) (fun ds ⟨i, hi, e⟩ => ⟨1 + (i : Int), e, by omega, by omega, i + 1, ?_, by omega, by omega⟩))
    (by simp) (fun items ⟨kk, e, k1, k2⟩ => ?_) (fun items ⟨kk, e, k1, k2⟩ i d hd => ?_)).xb.imp (Nat.le_refl _) (fun z ⟨ds, e, items, ⟨kk, e2, k1, k2⟩, hs⟩ => ?_)) fun d ⟨bs, e, hb1, hb2⟩ => ?_)
  · subst hd he
    intro x' y' bx n' δ σ G H E r1 r2 Q q
    exact rd_I0 x' y' bx n' δ σ G H E r1 r2 Q fun v f G' H' t r e => q v f G' H' t r ⟨i, hi, e⟩
  · unfold rgD
    rw [show (1 + (i : Int)).toNat = i + 1 by omega]
    apply List.map_congr_left
    intro x _
    show PyData.int (0 + (x : Int)) = _
    rw [Int.zero_add]
  · subst e
    simp
    omega
  · subst e
    have hi : i < kk := by
      have := (List.getElem?_eq_some_iff.mp hd).1
      simpa using this
    rw [List.getElem?_map, List.getElem?_range hi] at hd
    cases hd
    refine ⟨xg_name, xt_yes, fun _ m' hm' => ?_⟩
    refine (xb_tupC (xn_lcDraw (c := 1) (n2 := m' + 2) (xs := List.range 2) (A := fun i : Nat => PyData.int (i : Int)) (R := fun _ d => ∃ i : Nat, i < p ∧ d = .int (i : Int)) (js := [10]) (xid_rangeN (k := 2) (xad_cons (xd_int.is rfl) xad_nil) (by omega) _) (by simp) (by simp) (fun x hx => xg_name) (fun x hx m'' hm'' => (xc_l_take (m := p) rfl (xad_cons (xd_var rfl) xad_nil) (by omega) (by omega))) (by simp))).imp (Nat.le_refl _) (fun d ⟨ds, e, hd⟩ => ?_)
    obtain ⟨r, e1, e2, e3⟩ := paired_dig hd
    exact ⟨r, by rw [e, e1], by simpa using e2, e3⟩
  · subst e2
    obtain ⟨s1, s2⟩ := sel_forall hs
    obtain ⟨bs, e3, e4, e5⟩ := list_enc (enc := rowD) s2
    refine ⟨bs, by rw [e, e3], ?_, e5⟩
    simp at s1
    omega
  subst e
  refine sj_seq (sj_asgN (xn_lst xa_nil (fun ds e => by rw [e]; simp)) fun ds e => ?_)
  subst e
  refine sj_seq (sj_forT (xs := List.range nc) (A := fun i : Nat => PyData.int (i : Int)) (xid_rangeN (xad_cons (xd_var rfl) xad_nil) (by omega)) (fun i δ m' => m' ≤ n + 5 ∧ ∃ s6 s7 s8 s9 s10 s11 cs, cs.length = i ∧ (∀ c ∈ cs, c.length = m ∧ Dig p c) ∧ δ = [.box, .val (.int p), .val (.int nc), .val (.int m), .val (.list (bs.map rowD)), .own (cs.map rowD), s6, s7, s8, s9, s10, s11]) ⟨Nat.le_refl _, .un, .un, .un, .un, .un, .un, [], rfl, fun c hc => by simp at hc, rfl⟩ (fun j x δ' m' hx iv => ?_) (fun δ' m' iv => ?_))
  · obtain ⟨hm', s6, s7, s8, s9, s10, s11, cs, hcl, hcs, rfl⟩ := iv
    have hj : j < nc := by
      have := (List.getElem?_eq_some_iff.mp hx).1
      simpa using this
    rw [List.getElem?_range hj] at hx
    cases hx
    have hL : 0 < bs.length := by omega
    have hmod : j % bs.length < bs.length := Nat.mod_lt _ hL
    have hown : bs.getD (j % bs.length) [] ∈ bs := List.mem_of_getElem? (getD_some hmod [])
    have e1 : ((j : Nat) : Int) % ((bs.length : Nat) : Int) = ((j % bs.length : Nat) : Int) := by simp
    have e2 : ((j : Nat) : Int) / ((bs.length : Nat) : Int) = ((j / bs.length : Nat) : Int) := by simp
    refine ⟨_, [6], xg_name, sj_seq (sj_par (xs_own (xn_op (P := fun z => z = .list [.int 0]) (P' := fun z => z = .int (m : Nat)) (PL := fun z => z = (List.replicate m (0 : Int)).map PyData.int) ((xd_lst (xad_cons xd_int xad_nil) (by simp)) _) (xd_var rfl _) (fun d e hd he => ?_))) (xs_val ((xd_op (xd_var rfl) ((xd_op (xd_var rfl) (xd_cb (xad_cons (xd_var rfl) xad_nil) rc_lenLE) (rd_I ?_)).is (by rw [e1])) (rd_ixLG [] hmod)) _)) fun s s' ⟨ds, e3, e4⟩ ⟨d, e5, e6⟩ => ?_)⟩
    · subst hd he
      rw [← rep0]
      exact rn_rep (by omega) (by omega) (by simp)
    · show (0 : Int) < _
      omega
    subst e3 e4 e5 e6
    refine sj_seq (sj_forT (xs := (bs.getD (j % bs.length) []).zipIdx) (A := fun p => .tuple [.int (p.2 : Nat), .int p.1]) ((xid_enumT (xad_cons (xd_var rfl) xad_nil)).is enD_map) (fun i δ m'' => m'' ≤ n + 5 ∧ ∃ c s10 s11, c.length = m ∧ Dig p c ∧ δ = [.box, .val (.int p), .val (.int nc), .val (.int m), .val (.list (bs.map rowD)), .own (cs.map rowD), .val (.int (j : Int)), s7, .own (c.map PyData.int), .val (rowD (bs.getD (j % bs.length) [])), s10, s11]) ⟨hm', List.replicate m 0, _, _, by simp, dig_rep hp, rfl⟩ (fun i x δ' m'' hx iv => ?_) (fun δ' m'' iv => ?_))
    · obtain ⟨hm'', c, t10, t11, hc1, hc2, rfl⟩ := iv
      have hxm := List.mem_of_getElem? hx
      have hx1 : x.1 ∈ bs.getD (j % bs.length) [] := List.fst_mem_of_mem_zipIdx hxm
      refine ⟨_, [10, 11], xg_tup2, sj_if (XT.is (xt_test (xd_op (xd_op (xd_op (xd_var rfl) (xd_cb (xad_cons (xd_var rfl) xad_nil) rc_lenLE) (rd_I ?_)) (xd_var rfl) rd_I0) (xd_var rfl) rd_B0)) rfl) (fun hb => ?_) (fun hb => sj_next ⟨hm'', c, _, _, hc1, hc2, rfl⟩)⟩
      · exact ⟨by omega, by omega⟩
      · have hlt := of_decide_eq_true hb
        rw [e2] at hlt
        refine sj_setL (i := 8) (j := j / bs.length + x.2) (z := ((j / bs.length + x.2 : Nat) : Int)) rfl (xd_var rfl _) ((xd_op (xd_op (xd_var rfl) (xd_cb (xad_cons (xd_var rfl) xad_nil) rc_lenLE) (rd_I ?_)) (xd_var rfl) rd_I0).is ?_) ?_ fun d e => ?_
        · exact ⟨by omega, by omega⟩
        · rw [e2]
          rfl
        · exact ixN_nat (by rw [List.length_map]; omega)
        · subst e
          have hs : (c.map PyData.int).set (j / bs.length + x.2) (PyData.int x.1) = (c.set (j / bs.length + x.2) x.1).map PyData.int := List.map_set.symm
          rw [hs]
          exact ⟨hm'', _, _, _, by simpa using hc1, dig_set hc2 ((hb2 _ hown).2 _ hx1), rfl⟩
    · obtain ⟨hm'', c, t10, t11, hc1, hc2, rfl⟩ := iv
      refine sj_freeze (i := 8) rfl (sj_append (i := 5) rfl ((xd_cb (xad_cons (xd_var rfl) xad_nil) rc_tupleL) _) (by simp; omega) fun d e => ?_)
      subst e
      have hs : cs.map rowD ++ [rowD c] = (cs ++ [c]).map rowD := by simp
      show _ ∧ ∃ s6 s7 s8 s9 s10 s11 cs', _
      rw [hs]
      refine ⟨hm'', _, _, _, _, _, _, cs ++ [c], by simp [hcl], fun y hy => ?_, rfl⟩
      rcases List.mem_append.mp hy with hy | hy
      · exact hcs y hy
      · simp only [List.mem_singleton] at hy
        rw [hy]
        exact ⟨hc1, hc2⟩
  · obtain ⟨hm', s6, s7, s8, s9, s10, s11, cs, hcl, hcs, rfl⟩ := iv
    rw [List.length_range] at hcl
    refine sj_freeze (i := 5) rfl (sj_retD (xd_tup (xad_cons (xd_var rfl) (xad_cons (xd_var rfl) (xad_cons (xd_cb (xad_cons (xd_var rfl) xad_nil) rc_tupleL) xad_nil))) (by simp)) ⟨by omega, ⟨p, m, cs⟩, rfl, ⟨rfl, by show m ≤ 300; omega, hcl, hcs⟩, rfl⟩)
end
end Dry

set_option Elab.async false
set_option linter.all false
set_option maxRecDepth 100000
set_option maxHeartbeats 4000000
namespace Dry
open PySem PySem.Spec PyProof.Rows L2 RZ
section
variable {P : Program} {w : World} {K : PySem.W.Frag} {mg : Str → Option Value} {base : Heap}
theorem sc_l_key : FnScope ["_law_tin", "_law_p_so", "_law_cells_so", "_law_many_so", "_law_lap", "_law_kind_so", "_law_columns_so", "_law_row_so", "_law_own", "_law_k"] ["_law_tin", "_law_p_so", "_law_cells_so", "_law_many_so"] (defScope s_l_key) := ⟨rfl, rfl, rfl, by decide +kernel, rfl, by decide +kernel, by decide +kernel⟩
abbrev lv_l_key : Nat := 3
def dom_l_key : List PyData → Nat → (PyData → Prop) → Prop := fun ds0 c0 P0 => ∃ (p nc m : Nat), ds0 = [.int p, .int nc, .int m] ∧ (p = 2 ∨ p = 3) ∧ (1 ≤ nc ∧ nc ≤ 10) ∧ (m ≤ 10) ∧ c0 = 300 ∧ P0 = (fun z => ∃ k : Ky, z = keyD k ∧ KOk p nc k ∧ k.m = m)
abbrev sp_l_key (K : PySem.W.Frag) : Sp := SpB K dom_l_key
theorem xc_l_key {K : PySem.W.Frag} {tr : TA} {δ : List Sl} {nn ii : Nat} {p nc m : Nat} (hi : δ[ii]? = some .box) (h0 : XAD K tr δ [.int p, .int nc, .int m]) (hp : p = 2 ∨ p = 3) (h1 : 1 ≤ nc ∧ nc ≤ 10) (h2 : m ≤ 10) (hc : nn + (300) ≤ 2 ^ 50) : XB K (tCall (sp_l_key K) [] E0 (tCons (tVar ii) tr)) δ nn (nn + (300)) (fun z => ∃ k : Ky, z = keyD k ∧ KOk p nc k ∧ k.m = m) := xb_callB hi (h0 nn) (fun es e => by rw [e]; exact ⟨_, _, _, rfl, hp, h1, h2, rfl, rfl⟩) hc
theorem ok_l_key (D : Df K mg "_law_key" s_l_key) (B : Bi mg) (C_l_band_key : Call1 P w K mg base CX0 lv_l_band_key "_law_band_key" (sp_l_band_key K)) (C_l_of : Call1 P w K mg base CX0 lv_l_of "_law_of" (sp_l_of K)) (C_l_take : Call1 P w K mg base CX0 lv_l_take "_law_take" (sp_l_take K)) : Call1 P w K mg base CX0 lv_l_key "_law_key" (sp_l_key K) := by
  refine fun_okB (k := 2) (N := ["_law_tin", "_law_p_so", "_law_cells_so", "_law_many_so", "_law_lap", "_law_kind_so", "_law_columns_so", "_law_row_so", "_law_own", "_law_k"]) (ps := ["_law_tin", "_law_p_so", "_law_cells_so", "_law_many_so"]) D sc_l_key (by simp) (fun ds0 c0 P0 hd => by obtain ⟨p, nc, m, rfl, hp, h1, h2, rfl, rfl⟩ := hd; rfl) (fun _ _ _ _ _ _ us hl => match us, hl with | [_, _, _, _], _ => rfl) fun f cdv A outer s H E hr => ⟨_, 
    (pss_cons (ps_asg (g := (gTup K 2 (gCons (gName 5) (gCons (gName 6) gNil)))) (pe_tup (pa_cons (pe_callC C_l_take (hr.mono (by decide)) (by rfl) (pa_cons (pv 0) (pa_cons pe_int pa_nil))) (pa_cons (pe_lst pa_nil) pa_nil))) (pgTup (K := K) rfl (pgs_cons (pgN (i := 5) sc_l_key.nd rfl (by first | exact Or.inl rfl | exact Or.inr rfl) (by first | exact Or.inl rfl | exact Or.inr rfl)) (pgs_cons (pgN (i := 6) sc_l_key.nd rfl (by first | exact Or.inl rfl | exact Or.inr rfl) (by first | exact Or.inl rfl | exact Or.inr rfl)) pgs_nil))))
      (pss_cons (ps_if (PW.pt (pw_and (pt_cmpR op_eq (pv 5) pe_int (nomark _)) (pw_and1 (pt_cmpR op_gt (pv 3) pe_int (nomark _))))) (pss_one (ps_ret (pe_callC C_l_band_key (hr.mono (by decide)) (by rfl) (pa_cons (pv 0) (pa_cons (pv 1) (pa_cons (pv 2) (pa_cons (pv 3) pa_nil))))))) pss_nil)
      (pss_cons (ps_for (g := (gName 4)) PassesOwn.never rfl (pi_range1 (by rfl) B.range (pa_cons (pv 2) pa_nil)) (pgN (i := 4) sc_l_key.nd rfl (by first | exact Or.inl rfl | exact Or.inr rfl) (by first | exact Or.inl rfl | exact Or.inr rfl)) (pss_one (ps_expr (pe_bm PySem.F.plainAttrs_list PySem.F.slot_list_append PySem.F.type_list_append mt_append (pv 6) (pa_cons (pe_callTy (cTuple (K := K)) (by rfl) B.tuple (by decide +kernel) (pa_cons (pe_lc (own := [("_law_k", 9)]) (g := (gName 9)) (tt := tYes) rfl sc_l_key.nd (pi_range1 (by rfl) B.range (pa_cons (pv 3) pa_nil)) (blkOk_by (N := ["_law_tin", "_law_p_so", "_law_cells_so", "_law_many_so", "_law_lap", "_law_kind_so", "_law_columns_so", "_law_row_so", "_law_own", "_law_k"]) (sc := defScope s_l_key) (by decide +kernel)) (fun _ _ _ _ _ => (pgN (i := 9) sc_l_key.nd rfl (by first | exact Or.inl rfl | exact Or.inr rfl) (by first | exact Or.inl rfl | exact Or.inr rfl))) (fun _ _ _ _ _ => pts_nil) (fun _ _ _ _ _ => (pe_callC C_l_of (hr.mono (by decide)) (by rfl) (pa_cons (pv 0) (pa_cons (pe_lst (pa_cons pe_int (pa_cons (pe_callC C_l_take (hr.mono (by decide)) (by rfl) (pa_cons (pv 0) (pa_cons (pv 1) pa_nil))) pa_nil))) pa_nil))))) pa_nil)) pa_nil)))))
      (pss_cons (ps_if (pt_cmpR op_eq (pv 5) pe_int (nomark _)) (pss_one (ps_set (i := 6) sc_l_key.nd rfl (by first | exact Or.inl rfl | exact Or.inr rfl) (pe_lc (own := [("_law_own", 8)]) (g := (gName 8)) (tt := tYes) rfl sc_l_key.nd (piList (K := K) (pv 6)) (blkOk_by (N := ["_law_tin", "_law_p_so", "_law_cells_so", "_law_many_so", "_law_lap", "_law_kind_so", "_law_columns_so", "_law_row_so", "_law_own", "_law_k"]) (sc := defScope s_l_key) (by decide +kernel)) (fun _ _ _ _ _ => (pgN (i := 8) sc_l_key.nd rfl (by first | exact Or.inl rfl | exact Or.inr rfl) (by first | exact Or.inl rfl | exact Or.inr rfl))) (fun _ _ _ _ _ => pts_nil) (fun _ _ _ _ _ => (pe_callC C_l_of (hr.mono (by decide)) (by rfl) (pa_cons (pv 0) (pa_cons (pe_slice (slL (K := K)) (pv 6) po_none (po_some pe_int)) pa_nil))))) (hf := (by first | exact Or.inl rfl | exact Or.inr rfl)))) pss_nil)
      (pss_cons (ps_if (PW.pt (pw_and (pt_cmpR op_eq (pv 5) pe_int (nomark _)) (pw_and1 (pt_cmpR op_gt (pv 3) pe_int (nomark _))))) (pss_cons (ps_set (i := 7) sc_l_key.nd rfl (by first | exact Or.inl rfl | exact Or.inr rfl) (pe_callC C_l_take (hr.mono (by decide)) (by rfl) (pa_cons (pv 0) (pa_cons (pv 3) pa_nil))) (hf := (by first | exact Or.inl rfl | exact Or.inr rfl)))
      (pss_one (ps_set (i := 6) sc_l_key.nd rfl (by first | exact Or.inl rfl | exact Or.inr rfl) (pe_lc (own := [("_law_own", 8)]) (g := (gName 8)) (tt := tYes) rfl sc_l_key.nd (piList (K := K) (pv 6)) (blkOk_by (N := ["_law_tin", "_law_p_so", "_law_cells_so", "_law_many_so", "_law_lap", "_law_kind_so", "_law_columns_so", "_law_row_so", "_law_own", "_law_k"]) (sc := defScope s_l_key) (by decide +kernel)) (fun _ _ _ _ _ => (pgN (i := 8) sc_l_key.nd rfl (by first | exact Or.inl rfl | exact Or.inr rfl) (by first | exact Or.inl rfl | exact Or.inr rfl))) (fun _ _ _ _ _ => pts_nil) (fun _ _ _ _ _ => (pe_op (opCatT (K := K)) (pe_op (opCatT (K := K)) (pe_slice (slT (K := K)) (pv 8) po_none (po_some (pv 7))) (pe_tup (pa_cons pe_int pa_nil))) (pe_slice (slT (K := K)) (pv 8) (po_some (pe_op op_add (pv 7) pe_int)) po_none)))) (hf := (by first | exact Or.inl rfl | exact Or.inr rfl))))) pss_nil)
      (pss_one (ps_ret (pe_tup (pa_cons (pv 1) (pa_cons (pv 3) (pa_cons (pe_callTy (cTuple (K := K)) (by rfl) B.tuple (by decide +kernel) (pa_cons (pv 6) pa_nil)) pa_nil))))))))))), fun ds0 c0 P0 n hd hn => ?_⟩
  obtain ⟨p, nc, m, rfl, hp, h1, h2, rfl, rfl⟩ := hd
  refine sj_seq (sj_parT (xs_val (xc_l_take (m := 6) rfl (xad_cons xd_int xad_nil) (by omega) (by omega))) (xs_own (xn_lst xa_nil (fun ds e => by rw [e]; simp))) fun s s' ⟨d, e1, kind, hk, e2⟩ ⟨ds, e3, e4⟩ => ?_)
  subst e1 e2 e3 e4
  have hE1 : XT K (tAnd (tTest (tOp rEq (tVar 5) (tC (V.int 0)))) (tTest (tOp (rI0 fun i j => .bl (decide (j < i))) (tVar 3) (tC (V.int 0))))) [.box, .val (.int (p : Int)), .val (.int (nc : Int)), .val (.int (m : Int)), .un, .val (.int (kind : Int)), .own [], .un, .un, .un] (decide ((kind : Int) = 0) && decide ((0 : Int) < (m : Int))) := (xt_and (xt_test (xd_op (xd_var rfl) xd_int rd_eqI)) fun _ => (xt_test (xd_op (xd_var rfl) xd_int rd_B0)))
  refine sj_seq (sj_if hE1 (fun hb => ?_) (fun hb => sj_next ?_))
  · simp only [Bool.and_eq_true, decide_eq_true_eq] at hb
    exact sj_ret (xc_l_band_key (p := p) (nc := nc) (m := m) rfl (xad_cons (xd_var rfl) (xad_cons (xd_var rfl) (xad_cons (xd_var rfl) xad_nil))) hp h1.2 ⟨by omega, h2⟩ (by omega)) fun d hd => ⟨by omega, hd⟩
  have hmn : m * nc ≤ 100 := by
    have := Nat.mul_le_mul h2 h1.2
    omega
  refine sj_seq (sj_forT (xs := List.range nc) (A := fun i : Nat => PyData.int (i : Int)) (xid_rangeN (xad_cons (xd_var rfl) xad_nil) (by omega)) (fun i δ m' => m' ≤ n + 1 + i * (2 * m) ∧ ∃ s4 s9 cs, cs.length = i ∧ (∀ c ∈ cs, c.length = m ∧ Dig p c) ∧ δ = [.box, .val (.int p), .val (.int nc), .val (.int m), s4, .val (.int (kind : Int)), .own (cs.map rowD), .un, .un, s9]) ⟨by omega, .un, .un, [], rfl, fun c hc => by simp at hc, rfl⟩ (fun j x δ' m' hx iv => ?_) (fun δ' m' iv => ?_))
  · obtain ⟨hm', s4, s9, cs, hcl, hcs, rfl⟩ := iv
    have hj : j < nc := by
      have := (List.getElem?_eq_some_iff.mp hx).1
      simpa using this
    have hjm : j * (2 * m) ≤ 200 := Nat.le_trans (Nat.mul_le_mul (show j ≤ 10 by omega) (show 2 * m ≤ 20 by omega)) (by decide)
    refine ⟨_, [4], xg_name, sj_append (i := 6) (n1 := m' + 2 * m) (P := fun z => ∃ r : List Int, z = rowD r ∧ r.length = m ∧ Dig p r) rfl ((xb_tupC (xn_lcDraw (c := 2) (n2 := m' + 2 * m) (xs := List.range m) (A := fun i : Nat => PyData.int (i : Int)) (R := fun _ d => ∃ i : Nat, i < p ∧ d = .int (i : Int)) (js := [9]) (xid_rangeN (xad_cons (xd_var rfl) xad_nil) (by omega) _) (by simp) (by simp; omega) (fun x hx => xg_name) (fun x hx m'' hm'' => ?_) (by simp; omega))).imp (Nat.le_refl _) (fun d ⟨ds, e, hd⟩ => ?_)) (by simp; omega) fun d ⟨r, e, r1, r2⟩ => ?_⟩
    · refine (xb_callBw (n1 := m'' + 1) (c := 1) (PL := fun z => ∃ i : Nat, i < p ∧ z = [.list [.int 0, .int (i : Int)]]) (P := fun d => ∃ i : Nat, i < p ∧ d = .int (i : Int)) rfl ((xa_cons (XN.xb (xn_lst (xa_cons (xd_int _) (xa_cons (xc_l_take (m := p) rfl (xad_cons (xd_var rfl) xad_nil) (by omega) (by omega)) xa_nil)) (fun ds ⟨d, es, e1, e2, d2, es2, e3, _, e5⟩ => by rw [e1, e3, e5]; simp))) xa_nil).imp (Nat.le_refl _) (fun z ⟨d, es, e1, ⟨ds, e2, d3, es3, e3, e4, d5, es5, e5, ⟨i, hi, e6⟩, e7⟩, e8⟩ => ⟨i, hi, by rw [e1, e2, e3, e4, e5, e6, e7, e8]⟩)) (fun ds ⟨i, hi, e⟩ => ⟨fun z => z ∈ [PyData.int 0, PyData.int (i : Int)], ⟨_, e, ⟨by simp, by simp⟩, rfl, rfl⟩, fun z hz => ?_⟩) (by omega))
      simp only [List.mem_cons, List.not_mem_nil, or_false] at hz
      rcases hz with rfl | rfl
      · exact ⟨0, by omega, rfl⟩
      · exact ⟨i, hi, rfl⟩
    · obtain ⟨r, e1, e2, e3⟩ := paired_dig hd
      exact ⟨r, by rw [e, e1], by simpa using e2, e3⟩
    · subst e
      have hs : cs.map rowD ++ [rowD r] = (cs ++ [r]).map rowD := by simp
      show _ ∧ ∃ s4 s9 cs', _
      rw [hs]
      refine ⟨by rw [Nat.succ_mul j (2 * m)]; omega, _, _, cs ++ [r], by simp [hcl], fun y hy => ?_, rfl⟩
      rcases List.mem_append.mp hy with hy | hy
      · exact hcs y hy
      · simp only [List.mem_singleton] at hy
        rw [hy]
        exact ⟨r1, r2⟩
  obtain ⟨hm', s4, s9, cs, hcl, hcs, rfl⟩ := iv
  rw [List.length_range] at hm' hcl
  have hnm : nc * (2 * m) ≤ 200 := Nat.le_trans (Nat.mul_le_mul h1.2 (show 2 * m ≤ 20 by omega)) (by decide)
  have fin : ∀ (cs : List (List Int)) (s7 s8 : Sl) (m'' : Nat), cs.length = nc → (∀ c ∈ cs, c.length = m ∧ Dig p c) → m'' ≤ n + 300 → SJ K (tRet (tTup (tCons (tVar 1) (tCons (tVar 3) (tCons (tCB (fun xs H Q => ∃ p ys, xs = [V.ref p] ∧ ((SqL K H p ys ∧ ∀ l, H l = none → Q (.ref l) (upd H l (.tup ys))) ∨ (SqT K H p ys ∧ Q (.ref p) H))) (tCons (tVar 6) tNil)) tNil)))))
      [.box, .val (.int p), .val (.int nc), .val (.int m), s4, .val (.int (kind : Int)), .val (.list (cs.map rowD)), s7, s8, s9] m'' ⟨fun _ mm => mm ≤ n + 300 ∧ (∃ k : Ky, PyData.none = keyD k ∧ KOk p nc k ∧ k.m = m), fun d mm => mm ≤ n + 300 ∧ (∃ k : Ky, d = keyD k ∧ KOk p nc k ∧ k.m = m), fun _ _ => False, fun _ _ => False⟩ := fun cs s7 s8 m'' c1 c2 c3 =>
    sj_retD (xd_tup (xad_cons (xd_var rfl) (xad_cons (xd_var rfl) (xad_cons (xd_cb (xad_cons (xd_var rfl) xad_nil) rc_tupleL) xad_nil))) (by simp)) ⟨c3, ⟨p, m, cs⟩, rfl, ⟨rfl, by show m ≤ 300; omega, c1, c2⟩, rfl⟩
  have fin2 : ∀ (cs : List (List Int)) (m'' : Nat), cs.length = nc → (∀ c ∈ cs, c.length = m ∧ Dig p c) → m'' ≤ n + 250 → SJ K (tSeq (tIfS (tAnd (tTest (tOp rEq (tVar 5) (tC (V.int 2)))) (tTest (tOp (rI0 fun i j => V.bl (decide (j < i))) (tVar 3) (tC (V.int 0))))) (tSeq (tAsg (tCall (sp_l_take K) [] E0 (tCons (tVar 0) (tCons (tVar 3) tNil))) (gName 7)) (tAsg (tLc (iList K (tVar 6)) (gName 8) tYes (tOp (rCatA K) (tOp (rCatA K) (tSl (rSlA K) (tVar 8) tNoPart (tPart (tVar 7))) (tTup (tCons (tC (V.int 0)) tNil))) (tSl (rSlA K) (tVar 8) (tPart (tOp (rI0 fun i j => V.int (i + j)) (tVar 7) (tC (V.int 1)))) tNoPart)) (List.map (fun x => x.snd) [(Str.ofString "_law_own", 8)])) (gName 6))) tNext) (tRet (tTup (tCons (tVar 1) (tCons (tVar 3) (tCons (tCB (fun xs H Q => ∃ p ys, xs = [V.ref p] ∧ ((SqL K H p ys ∧ ∀ l, H l = none → Q (.ref l) (upd H l (.tup ys))) ∨ (SqT K H p ys ∧ Q (.ref p) H))) (tCons (tVar 6) tNil)) tNil)))))) [.box, .val (.int p), .val (.int nc), .val (.int m), s4, .val (.int (kind : Int)), .val (.list (cs.map rowD)), .un, .un, s9] m'' ⟨fun _ mm => mm ≤ n + 300 ∧ (∃ k : Ky, PyData.none = keyD k ∧ KOk p nc k ∧ k.m = m), fun d mm => mm ≤ n + 300 ∧ (∃ k : Ky, d = keyD k ∧ KOk p nc k ∧ k.m = m), fun _ _ => False, fun _ _ => False⟩ := fun cs m'' c1 c2 c3 => by
    refine sj_seq (sj_if (XT.is (xt_and (xt_test (xd_op (xd_var rfl) xd_int rd_eqI)) fun _ => (xt_test (xd_op (xd_var rfl) xd_int rd_B0))) rfl) (fun hb => ?_) (fun hb => sj_next (fin cs _ _ m'' c1 c2 (by omega))))
    simp only [Bool.and_eq_true, decide_eq_true_eq] at hb
    refine sj_seq (sj_asg (xc_l_take (m := m) rfl (xad_cons (xd_var rfl) xad_nil) (by omega) (by omega)) fun d ⟨row, hrow, e⟩ => ?_)
    subst e
    have e1 : ((row : Nat) : Int) + 1 = ((row + 1 : Nat) : Int) := by omega
    refine sj_asgD (d := .list ((cs.map fun c : List Int => c.take row ++ [0] ++ c.drop (row + 1)).map rowD)) (XD.is (xd_lcMap (xs := cs) (A := rowD) (F := fun c : List Int => rowD (c.take row ++ [0] ++ c.drop (row + 1))) (js := [8]) (xid_list (xd_var rfl)) (by simp) (by omega) (fun x hx => xg_name) (fun x hx => XD.is (xd_op (xd_op (xd_slE (xd_var rfl) xo_none (xo_some (xd_var rfl))) (xd_tup1 PyData.int xd_int) (rd_catE ?_)) (xd_slE (xd_var rfl) (xo_some (xd_op (xd_var rfl) xd_int rd_I0)) xo_none) (rd_catE ?_)) ?_)) (by rw [List.map_map]; rfl)) (fin (cs.map fun c : List Int => c.take row ++ [0] ++ c.drop (row + 1)) (.val (.int (row : Int))) .un (m'' + 1) (by simpa using c1) (fun c hc => ?_) (by omega))
    · have := (c2 x hx).1
      rw [cut_take]
      have h1 := List.length_take_le row x
      simp only [List.length_singleton]
      omega
    · have := (c2 x hx).1
      rw [e1, cut_take, cut_drop]
      have h1 := List.length_take_le row x
      have h2 := List.length_drop (l := x) (i := row + 1)
      simp only [List.length_append, List.length_singleton]
      omega
    · rw [e1, cut_take, cut_drop]
    · obtain ⟨c, hc', rfl⟩ := List.mem_map.mp hc
      obtain ⟨l1, l2⟩ := c2 c hc'
      refine ⟨by simp; omega, fun y hy => ?_⟩
      simp only [List.mem_append, List.mem_singleton] at hy
      rcases hy with (hy | hy) | hy
      · exact l2 y (List.mem_of_mem_take hy)
      · rw [hy]; omega
      · exact l2 y (List.mem_of_mem_drop hy)
  refine sj_freeze (i := 6) rfl ?_
  refine sj_seq (sj_if (XT.is (xt_test (xd_op (xd_var rfl) xd_int rd_eqI)) rfl) (fun hb => ?_) (fun hb => sj_next (fin2 cs m' hcl hcs (by omega))))
  refine sj_asg (P := fun z => ∃ cs' : List (List Int), z = .list (cs'.map rowD) ∧ cs'.length = nc ∧ ∀ c ∈ cs', c.length = m ∧ Dig p c) ((xn_lcDraw (c := 1) (n2 := m' + nc) (xs := cs) (A := rowD) (R := fun _ d => d ∈ (cs.take 2).map rowD) (js := [8]) (xid_list (xd_var rfl) _) (by simp) (by omega) (fun x hx => xg_name) (fun x hx m'' hm'' => (xc_l_of (ds := (cs.take 2).map rowD) rfl (xad_cons ((XN.xd fun _ => xn_slL (xd_var rfl) xo_none (xo_some xd_int)).is (by rw [show (2 : Int) = ((2 : Nat) : Int) from rfl, cutP_map, cut_take])) xad_nil) ⟨?_, ?_⟩ (by omega))) (by omega)).xb.imp (Nat.le_refl _) (fun d ⟨ds, e, hd⟩ => ?_)) fun d ⟨cs', e, c1, c2⟩ => ?_
  · intro e
    rw [List.map_eq_nil_iff, List.take_eq_nil_iff] at e
    rcases e with e | e
    · omega
    · rw [e] at hcl
      simp at hcl
      omega
  · simp
    omega
  · have hall : ∀ {xs : List (List Int)} {z : List PyData}, Paired (fun _ d => d ∈ (cs.take 2).map rowD) xs z → z.length = xs.length ∧ ∀ d ∈ z, ∃ c : List Int, d = rowD c ∧ (c.length = m ∧ Dig p c) := fun {xs z} h => by
      induction h with
      | nil => exact ⟨rfl, fun d hd => by simp at hd⟩
      | @cons a b as bs h t ih =>
        refine ⟨by simp [ih.1], fun d hd => ?_⟩
        rcases List.mem_cons.mp hd with rfl | hd
        · obtain ⟨c, hc, rfl⟩ := List.mem_map.mp h
          exact ⟨c, rfl, hcs c (List.mem_of_mem_take hc)⟩
        · exact ih.2 d hd
    obtain ⟨a1, a2⟩ := hall hd
    obtain ⟨cs', b1, b2, b3⟩ := list_enc (enc := rowD) a2
    exact ⟨cs', by rw [e, b1], by omega, b3⟩
  · subst e
    exact fin2 cs' _ c1 c2 (by omega)
end
end Dry

set_option Elab.async false
set_option linter.all false
set_option maxRecDepth 100000
set_option maxHeartbeats 4000000
namespace Dry
open PySem PySem.Spec PyProof.Rows L2 RZ
section
variable {P : Program} {w : World} {K : PySem.W.Frag} {mg : Str → Option Value} {base : Heap}
theorem paired_keys {p nc : Nat} {ms : List Nat} {z : List PyData} (h : Paired (fun m d => ∃ k : Ky, d = keyD k ∧ KOk p nc k ∧ k.m = m) ms z) : ∃ ks : List Ky, z = ks.map keyD ∧ ks.map (·.m) = ms ∧ ∀ k ∈ ks, KOk p nc k := by
  induction h with
  | nil => exact ⟨[], rfl, rfl, fun x hx => by simp at hx⟩
  | @cons a b as bs h t ih =>
    obtain ⟨ks, e1, e2, e3⟩ := ih
    obtain ⟨k, rfl, k1, k2⟩ := h
    refine ⟨k :: ks, by simp [e1], by simp [e2, k2], fun x hx => ?_⟩
    rcases List.mem_cons.mp hx with rfl | hx
    · exact k1
    · exact e3 x hx
theorem paired_len {α : Type} {R : α → PyData → Prop} {xs : List α} {z : List PyData} (h : Paired R xs z) : z.length = xs.length := (Paired.length h).symm
theorem sc_l_hands : FnScope ["_law_tin", "_law_p_so", "_law_cells_so", "_law_many_so", "_law_own"] ["_law_tin", "_law_p_so", "_law_cells_so"] (defScope s_l_hands) := ⟨rfl, rfl, rfl, by decide +kernel, rfl, by decide +kernel, by decide +kernel⟩
abbrev lv_l_hands : Nat := 4
def dom_l_hands : List PyData → Nat → (PyData → Prop) → Prop := fun ds0 c0 P0 => ∃ (p nc : Nat), ds0 = [.int p, .int nc] ∧ (p = 2 ∨ p = 3) ∧ (1 ≤ nc ∧ nc ≤ 10) ∧ c0 = 1000 ∧ P0 = (fun z => ∃ ks : List Ky, z = keysD ks ∧ KsOk p nc ks ∧ (2 ≤ ks.length ∧ ks.length ≤ 3) ∧ (ks.map (·.m)).sum ≤ 4)
abbrev sp_l_hands (K : PySem.W.Frag) : Sp := SpB K dom_l_hands
theorem xc_l_hands {K : PySem.W.Frag} {tr : TA} {δ : List Sl} {nn ii : Nat} {p nc : Nat} (hi : δ[ii]? = some .box) (h0 : XAD K tr δ [.int p, .int nc]) (hp : p = 2 ∨ p = 3) (h1 : 1 ≤ nc ∧ nc ≤ 10) (hc : nn + (1000) ≤ 2 ^ 50) : XB K (tCall (sp_l_hands K) [] E0 (tCons (tVar ii) tr)) δ nn (nn + (1000)) (fun z => ∃ ks : List Ky, z = keysD ks ∧ KsOk p nc ks ∧ (2 ≤ ks.length ∧ ks.length ≤ 3) ∧ (ks.map (·.m)).sum ≤ 4) := xb_callB hi (h0 nn) (fun es e => by rw [e]; exact ⟨_, _, rfl, hp, h1, rfl, rfl⟩) hc
theorem ok_l_hands (D : Df K mg "_law_hands" s_l_hands) (B : Bi mg) (C_l_key : Call1 P w K mg base CX0 lv_l_key "_law_key" (sp_l_key K)) (C_l_of : Call1 P w K mg base CX0 lv_l_of "_law_of" (sp_l_of K)) : Call1 P w K mg base CX0 lv_l_hands "_law_hands" (sp_l_hands K) := by
  refine fun_okB (k := 3) (N := ["_law_tin", "_law_p_so", "_law_cells_so", "_law_many_so", "_law_own"]) (ps := ["_law_tin", "_law_p_so", "_law_cells_so"]) D sc_l_hands (by simp) (fun ds0 c0 P0 hd => by obtain ⟨p, nc, rfl, hp, h1, rfl, rfl⟩ := hd; rfl) (fun _ _ _ _ _ _ us hl => match us, hl with | [_, _, _], _ => rfl) fun f cdv A outer s H E hr => ⟨_, 
    (pss_cons (ps_set (i := 3) sc_l_hands.nd rfl (by first | exact Or.inl rfl | exact Or.inr rfl) (pe_callC C_l_of (hr.mono (by decide)) (by rfl) (pa_cons (pv 0) (pa_cons (pe_lst (pa_cons (pe_tup (pa_cons pe_int (pa_cons pe_int pa_nil))) (pa_cons (pe_tup (pa_cons pe_int (pa_cons pe_int pa_nil))) (pa_cons (pe_tup (pa_cons pe_int (pa_cons pe_int pa_nil))) (pa_cons (pe_tup (pa_cons pe_int (pa_cons pe_int (pa_cons pe_int pa_nil)))) (pa_cons (pe_tup (pa_cons pe_int (pa_cons pe_int (pa_cons pe_int pa_nil)))) (pa_cons (pe_tup (pa_cons pe_int (pa_cons pe_int pa_nil))) (pa_cons (pe_tup (pa_cons pe_int (pa_cons pe_int (pa_cons pe_int pa_nil)))) pa_nil)))))))) pa_nil))) (hf := (by first | exact Or.inl rfl | exact Or.inr rfl)))
      (pss_one (ps_ret (pe_callTy (cTuple (K := K)) (by rfl) B.tuple (by decide +kernel) (pa_cons (pe_lc (own := [("_law_own", 4)]) (g := (gName 4)) (tt := tYes) rfl sc_l_hands.nd (piSeq (K := K) (pv 3)) (blkOk_by (N := ["_law_tin", "_law_p_so", "_law_cells_so", "_law_many_so", "_law_own"]) (sc := defScope s_l_hands) (by decide +kernel)) (fun _ _ _ _ _ => (pgN (i := 4) sc_l_hands.nd rfl (by first | exact Or.inl rfl | exact Or.inr rfl) (by first | exact Or.inl rfl | exact Or.inr rfl))) (fun _ _ _ _ _ => pts_nil) (fun _ _ _ _ _ => (pe_callC C_l_key (hr.mono (by decide)) (by rfl) (pa_cons (pv 0) (pa_cons (pv 1) (pa_cons (pv 2) (pa_cons (pv 4) pa_nil))))))) pa_nil))))), fun ds0 c0 P0 n hd hn => ?_⟩
  obtain ⟨p, nc, rfl, hp, h1, rfl, rfl⟩ := hd
  refine sj_seq (sj_asg (P := fun z => ∃ ms : List Nat, z = .tuple (ms.map fun i : Nat => PyData.int (i : Int)) ∧ (2 ≤ ms.length ∧ ms.length ≤ 3) ∧ ms.sum ≤ 4 ∧ ∀ m ∈ ms, m ≤ 2) ((xc_l_of rfl (xad_cons (xd_lst (xad_cons (xd_tup (xad_cons xd_int (xad_cons xd_int xad_nil)) (by simp)) (xad_cons (xd_tup (xad_cons xd_int (xad_cons xd_int xad_nil)) (by simp)) (xad_cons (xd_tup (xad_cons xd_int (xad_cons xd_int xad_nil)) (by simp)) (xad_cons (xd_tup (xad_cons xd_int (xad_cons xd_int (xad_cons xd_int xad_nil))) (by simp)) (xad_cons (xd_tup (xad_cons xd_int (xad_cons xd_int (xad_cons xd_int xad_nil))) (by simp)) (xad_cons (xd_tup (xad_cons xd_int (xad_cons xd_int xad_nil)) (by simp)) (xad_cons (xd_tup (xad_cons xd_int (xad_cons xd_int (xad_cons xd_int xad_nil))) (by simp)) xad_nil))))))) (by simp)) xad_nil) ⟨by simp, by simp⟩ (by omega)).imp (Nat.le_refl _) (fun d hd => ?_)) fun d ⟨ms, e, m1, m2, m3⟩ => ?_)
  · simp only [List.mem_cons, List.not_mem_nil, or_false] at hd
    rcases hd with rfl | rfl | rfl | rfl | rfl | rfl | rfl
    · exact ⟨[1, 1], rfl, by decide, by decide, by decide⟩
    · exact ⟨[1, 2], rfl, by decide, by decide, by decide⟩
    · exact ⟨[2, 1], rfl, by decide, by decide, by decide⟩
    · exact ⟨[1, 1, 1], rfl, by decide, by decide, by decide⟩
    · exact ⟨[1, 0, 2], rfl, by decide, by decide, by decide⟩
    · exact ⟨[2, 2], rfl, by decide, by decide, by decide⟩
    · exact ⟨[1, 2, 1], rfl, by decide, by decide, by decide⟩
  subst e
  refine sj_ret (xb_tupC (xn_lcDraw (c := 300) (n2 := n + 1 + 900) (xs := ms) (A := fun i : Nat => PyData.int (i : Int)) (R := fun m d => ∃ k : Ky, d = keyD k ∧ KOk p nc k ∧ k.m = m) (js := [4]) (xid_seqT (xd_var rfl) _) (by simp) (by omega) (fun x hx => xg_name) (fun x hx m' hm' => (xc_l_key rfl (xad_cons (xd_var rfl) (xad_cons (xd_var rfl) (xad_cons (xd_var rfl) xad_nil))) hp h1 (by have := m3 x hx; omega) (by omega))) (by have : ms.length * 300 ≤ 3 * 300 := Nat.mul_le_mul_right 300 m1.2; omega))) (fun d ⟨ds, e, hd⟩ => ⟨by omega, ?_⟩)
  obtain ⟨ks, e1, e2, e3⟩ := paired_keys hd
  have hl : ks.length = ms.length := by rw [← e2, List.length_map]
  refine ⟨ks, by rw [e, e1], ⟨hp, by omega, h1.2, fun z => ?_, by omega, fun k hk => ⟨e3 k hk, ?_⟩⟩, by omega, by rw [e2]; exact m2⟩
  · rw [z] at hl
    simp at hl
    omega
  · have := m3 k.m (by rw [← e2]; exact List.mem_map.mpr ⟨k, hk, rfl⟩)
    omega
theorem sc_l_scene : FnScope ["_law_tin", "_law_p_so", "_law_cells_so", "_law_keys_so", "_law_messages_so", "_law_own"] ["_law_tin"] (defScope s_l_scene) := ⟨rfl, rfl, rfl, by decide +kernel, rfl, by decide +kernel, by decide +kernel⟩
abbrev lv_l_scene : Nat := 5
def dom_l_scene : List PyData → Nat → (PyData → Prop) → Prop := fun ds0 c0 P0 => ds0 = [] ∧ c0 = 2000 ∧ P0 = (fun z => ∃ (p nc top : Nat) (rs : List (List Int)) (ps : List (Option Int)) (ks : List Ky) (ms : List (List Int)), z = .tuple [picD top rs, pricesD ps, keysD ks, rowsD ms] ∧ KsOk p nc ks ∧ PicOk top nc rs ∧ PrOk2 ps nc ∧ (2 ≤ ks.length ∧ ks.length ≤ 3) ∧ (ks.map (·.m)).sum ≤ 4)
abbrev sp_l_scene (K : PySem.W.Frag) : Sp := SpB K dom_l_scene
theorem xc_l_scene {K : PySem.W.Frag} {tr : TA} {δ : List Sl} {nn ii : Nat}  (hi : δ[ii]? = some .box) (h0 : XAD K tr δ []) (hc : nn + (2000) ≤ 2 ^ 50) : XB K (tCall (sp_l_scene K) [] E0 (tCons (tVar ii) tr)) δ nn (nn + (2000)) (fun z => ∃ (p nc top : Nat) (rs : List (List Int)) (ps : List (Option Int)) (ks : List Ky) (ms : List (List Int)), z = .tuple [picD top rs, pricesD ps, keysD ks, rowsD ms] ∧ KsOk p nc ks ∧ PicOk top nc rs ∧ PrOk2 ps nc ∧ (2 ≤ ks.length ∧ ks.length ≤ 3) ∧ (ks.map (·.m)).sum ≤ 4) := xb_callB hi (h0 nn) (fun es e => by rw [e]; exact ⟨rfl, rfl, rfl⟩) hc
theorem ok_l_scene (D : Df K mg "_law_scene" s_l_scene) (B : Bi mg) (C_l_hands : Call1 P w K mg base CX0 lv_l_hands "_law_hands" (sp_l_hands K)) (C_l_message : Call1 P w K mg base CX0 lv_l_message "_law_message" (sp_l_message K)) (C_l_of : Call1 P w K mg base CX0 lv_l_of "_law_of" (sp_l_of K)) (C_l_picture : Call1 P w K mg base CX0 lv_l_picture "_law_picture" (sp_l_picture K)) (C_l_prices : Call1 P w K mg base CX0 lv_l_prices "_law_prices" (sp_l_prices K)) (C_l_take : Call1 P w K mg base CX0 lv_l_take "_law_take" (sp_l_take K)) : Call1 P w K mg base CX0 lv_l_scene "_law_scene" (sp_l_scene K) := by
  refine fun_okB (k := 4) (N := ["_law_tin", "_law_p_so", "_law_cells_so", "_law_keys_so", "_law_messages_so", "_law_own"]) (ps := ["_law_tin"]) D sc_l_scene (by simp) (fun ds0 c0 P0 hd => by obtain ⟨rfl, rfl, rfl⟩ := hd; rfl) (fun _ _ _ _ _ _ us hl => match us, hl with | [_], _ => rfl) fun f cdv A outer s H E hr => ⟨_, 
    (pss_cons (ps_set (i := 1) sc_l_scene.nd rfl (by first | exact Or.inl rfl | exact Or.inr rfl) (pe_callC C_l_of (hr.mono (by decide)) (by rfl) (pa_cons (pv 0) (pa_cons (pe_lst (pa_cons pe_int (pa_cons pe_int (pa_cons pe_int pa_nil)))) pa_nil))) (hf := (by first | exact Or.inl rfl | exact Or.inr rfl)))
      (pss_cons (ps_set (i := 2) sc_l_scene.nd rfl (by first | exact Or.inl rfl | exact Or.inr rfl) (pe_ifExp (pt_cmpR (opEqD (K := K) hr.units) (pv 1) pe_int (nomark _)) (pe_op op_add pe_int (pe_callC C_l_take (hr.mono (by decide)) (by rfl) (pa_cons (pv 0) (pa_cons pe_int pa_nil)))) (pe_op op_add pe_int (pe_callC C_l_take (hr.mono (by decide)) (by rfl) (pa_cons (pv 0) (pa_cons pe_int pa_nil))))) (hf := (by first | exact Or.inl rfl | exact Or.inr rfl)))
      (pss_cons (ps_set (i := 3) sc_l_scene.nd rfl (by first | exact Or.inl rfl | exact Or.inr rfl) (pe_callC C_l_hands (hr.mono (by decide)) (by rfl) (pa_cons (pv 0) (pa_cons (pv 1) (pa_cons (pv 2) pa_nil)))) (hf := (by first | exact Or.inl rfl | exact Or.inr rfl)))
      (pss_cons (ps_set (i := 4) sc_l_scene.nd rfl (by first | exact Or.inl rfl | exact Or.inr rfl) (pe_callTy (cTuple (K := K)) (by rfl) B.tuple (by decide +kernel) (pa_cons (pe_lc (own := [("_law_own", 5)]) (g := (gName 5)) (tt := tYes) rfl sc_l_scene.nd (piTup (K := K) (pv 3)) (blkOk_by (N := ["_law_tin", "_law_p_so", "_law_cells_so", "_law_keys_so", "_law_messages_so", "_law_own"]) (sc := defScope s_l_scene) (by decide +kernel)) (fun _ _ _ _ _ => (pgN (i := 5) sc_l_scene.nd rfl (by first | exact Or.inl rfl | exact Or.inr rfl) (by first | exact Or.inl rfl | exact Or.inr rfl))) (fun _ _ _ _ _ => pts_nil) (fun _ _ _ _ _ => (pe_callC C_l_message (hr.mono (by decide)) (by rfl) (pa_cons (pv 0) (pa_cons (pv 5) pa_nil))))) pa_nil)) (hf := (by first | exact Or.inl rfl | exact Or.inr rfl)))
      (pss_one (ps_ret (pe_tup (pa_cons (pe_callC C_l_picture (hr.mono (by decide)) (by rfl) (pa_cons (pv 0) (pa_cons (pv 2) pa_nil))) (pa_cons (pe_callC C_l_prices (hr.mono (by decide)) (by rfl) (pa_cons (pv 0) (pa_cons (pv 2) pa_nil))) (pa_cons (pv 3) (pa_cons (pv 4) pa_nil))))))))))), fun ds0 c0 P0 n hd hn => ?_⟩
  obtain ⟨rfl, rfl, rfl⟩ := hd
  refine sj_seq (sj_asg (P := fun z => ∃ p : Nat, (p = 2 ∨ p = 3) ∧ z = .int (p : Int)) ((xc_l_of rfl (xad_cons (xd_lst (xad_cons xd_int (xad_cons xd_int (xad_cons xd_int xad_nil))) (by simp)) xad_nil) ⟨by simp, by simp⟩ (by omega)).imp (Nat.le_refl _) (fun d hd => ?_)) fun d ⟨p, hp, e⟩ => ?_)
  · simp only [List.mem_cons, List.not_mem_nil, or_false] at hd
    rcases hd with rfl | rfl | rfl
    · exact ⟨2, .inl rfl, rfl⟩
    · exact ⟨2, .inl rfl, rfl⟩
    · exact ⟨3, .inr rfl, rfl⟩
  subst e
  have add : ∀ {te : TE} {q : Nat} {δ : List Sl} {nn : Nat}, XB K te δ nn (nn + 1) (fun z => ∃ i : Nat, i < q ∧ z = .int (i : Int)) → q ≤ 4 → XB K (tOp (rI0 fun i j => .int (i + j)) (tC (.int 2)) te) δ nn (nn + 1) (fun z => ∃ c : Nat, (2 ≤ c ∧ c ≤ 5) ∧ z = .int (c : Int)) := fun {te q δ nn} h hq =>
    xb_op (xd_int _) h (fun d e hd ⟨i, hi, he⟩ => by
      subst hd he
      intro x' y' bx n' δ σ G H E r1 r2 Q q
      exact rd_I0 x' y' bx n' δ σ G H E r1 r2 Q fun v f G' H' t r e => q v f G' H' t r ⟨i + 2, by omega, by rw [e]; congr 1; omega⟩)
  refine sj_seq (sj_asg (n1 := n + 2) (P := fun z => ∃ c : Nat, (2 ≤ c ∧ c ≤ 5) ∧ z = .int (c : Int)) (xb_if (xt_test (xd_op (xd_var rfl) xd_int (rd_eqD (sh_int (k := 1)).ok (sh_int (k := 1)).ok))) (fun _ => add (xc_l_take (m := 4) rfl (xad_cons xd_int xad_nil) (by omega) (by omega)) (by omega)) fun _ => add (xc_l_take (m := 2) rfl (xad_cons xd_int xad_nil) (by omega) (by omega)) (by omega)) fun d ⟨nc, hn1, e⟩ => ?_)
  subst e
  refine sj_seq (sj_asg (xc_l_hands (p := p) (nc := nc) rfl (xad_cons (xd_var rfl) (xad_cons (xd_var rfl) xad_nil)) hp (by omega) (by omega)) fun d ⟨ks, e, k1, k2, k3⟩ => ?_)
  subst e
  refine sj_seq (sj_asg (P := fun z => ∃ ms : List (List Int), z = rowsD ms) ((xb_tupC (xn_lcDraw (c := 300) (n2 := n + 2 + 1000 + 900) (xs := ks) (A := keyD) (R := fun _ d => ∃ r : List Int, d = rowD r ∧ True) (js := [5]) (xid_tup (xd_var rfl) _) (by simp) (by omega) (fun x hx => xg_name) (fun x hx m' hm' => ?_) (by have : ks.length * 300 ≤ 3 * 300 := Nat.mul_le_mul_right 300 k2.2; omega))).imp (Nat.le_refl _) (fun d ⟨ds, e, hd⟩ => ?_)) fun d ⟨ms, e⟩ => ?_)
  · have := (k1.all x hx).2
    exact (xc_l_message (p := p) (nc := nc) (k := x) rfl (xad_cons (xd_var rfl) xad_nil) hp (k1.all x hx).1 (by omega)).imp (by omega) (fun d ⟨r, e, _⟩ => ⟨r, e, trivial⟩)
  · have hall : ∀ {xs : List Ky} {z : List PyData}, Paired (fun _ d => ∃ r : List Int, d = rowD r ∧ True) xs z → ∀ d ∈ z, ∃ c : List Int, d = rowD c ∧ True := fun {xs z} h => by
      induction h with
      | nil => exact fun d hd => by simp at hd
      | @cons a b as bs h t ih =>
        intro d hd
        rcases List.mem_cons.mp hd with rfl | hd
        · exact h
        · exact ih d hd
    obtain ⟨ms, b1, _, _⟩ := list_enc (enc := rowD) (hall hd)
    exact ⟨ms, by rw [e, b1]⟩
  subst e
  refine sj_ret (n1 := n + 2 + 1000 + 900 + (2 + nc) + (2 + nc)) (xb_tup (xa_cons (xc_l_picture (m := nc) rfl (xad_cons (xd_var rfl) xad_nil) (by omega) (by omega)) (xa_cons (xc_l_prices (m := nc) rfl (xad_cons (xd_var rfl) xad_nil) (by omega) (by omega)) (xa_cons (xd_var rfl _) (xa_cons (xd_var rfl _) xa_nil)))) (fun ds ⟨d1, es, e1, _, d2, es2, e2, _, d3, es3, e3, _, d4, es4, e4, _, e5⟩ => by rw [e1, e2, e3, e4, e5]; simp)) (fun d hd => ?_)
  obtain ⟨ds, e0, d1, es, e1, ⟨top, rs, a1, a2⟩, d2, es2, e2, ⟨ps, b1, b2⟩, d3, es3, e3, c1, d4, es4, e4, c2, e5⟩ := hd
  exact ⟨by omega, p, nc, top, rs, ps, ks, ms, by rw [e0, e1, e2, e3, e4, e5, a1, b1, c1, c2], k1, a2, b2, k2, k3⟩
end
end Dry

set_option Elab.async false
set_option linter.all false
set_option maxRecDepth 100000
set_option maxHeartbeats 4000000
namespace Dry
open PySem PySem.Spec PyProof.Rows L2 RZ
section
variable {P : Program} {w : World} {K : PySem.W.Frag} {mg : Str → Option Value} {base : Heap}
theorem sc_l_quiet_so : FnScope ["_law_picture_so", "_law_prices_so", "_law_keys_so", "_law_k", "_law_costs_so", "_law_now_so", "_law_message_so", "_law_own"] ["_law_picture_so", "_law_prices_so", "_law_keys_so", "_law_k"] (defScope s_l_quiet_so) := ⟨rfl, rfl, rfl, by decide +kernel, rfl, by decide +kernel, by decide +kernel⟩
def nowR (p : Nat) (ks : List Ky) (rs : List (List Int)) : List (List Int) := ks.map fun k => readK p k (restsOf p rs)
theorem sum_ge {l : List Nat} {x : Nat} (h : x ∈ l) : x ≤ l.sum := by
  induction l with
  | nil => simp at h
  | cons a l ih =>
    rw [List.sum_cons]
    rcases List.mem_cons.mp h with rfl | h
    · omega
    · have := ih h
      omega
abbrev lv_l_quiet_so : Nat := 4
def dom_l_quiet_so : List PyData → (PyData → Prop) → Prop := fun ds0 P0 => ∃ (p n top j : Nat) (rs : List (List Int)) (ps : List (Option Int)) (ks : List Ky), ds0 = [picD top rs, pricesD ps, keysD ks, .int j] ∧ (KsOk p n ks) ∧ (PicOk top n rs) ∧ (PrOk2 ps n) ∧ (j < ks.length) ∧ ((ks.map (·.m)).sum ≤ 8) ∧ P0 = (fun z => ∃ b : Bool, z = .bool b ∧ (b = true ↔ ∀ r ∈ allRows p (ks.getD j k0).m, Rch p (inOne ks).m (inOne ks).cols (canPay ps rs.flatten p) n (putR (nowR p ks rs) j r).flatten))
abbrev sp_l_quiet_so (K : PySem.W.Frag) : Sp := SpD K dom_l_quiet_so
theorem xc_l_quiet_so {K : PySem.W.Frag} {tr : TA} {δ : List Sl} {nn : Nat} {p n top j : Nat} {rs : List (List Int)} {ps : List (Option Int)} {ks : List Ky} (h0 : XAD K tr δ [picD top rs, pricesD ps, keysD ks, .int j]) (h1 : KsOk p n ks) (h2 : PicOk top n rs) (h3 : PrOk2 ps n) (h4 : j < ks.length) (h5 : (ks.map (·.m)).sum ≤ 8) : XB K (tCall (sp_l_quiet_so K) [] E0 tr) δ nn nn (fun z => ∃ b : Bool, z = .bool b ∧ (b = true ↔ ∀ r ∈ allRows p (ks.getD j k0).m, Rch p (inOne ks).m (inOne ks).cols (canPay ps rs.flatten p) n (putR (nowR p ks rs) j r).flatten)) := xb_callD (h0 nn) fun es e => by rw [e]; exact ⟨_, _, _, _, _, _, _, rfl, h1, h2, h3, h4, h5, rfl⟩
theorem ok_l_quiet_so (D : Df K mg "_law_quiet_so" s_l_quiet_so) (B : Bi mg) (C_l_all_rows : Call1 P w K mg base CX0 lv_l_all_rows "_law_all_rows" (sp_l_all_rows K)) (C_l_least_costs : Call1 P w K mg base CX0 lv_l_least_costs "_law_least_costs" (sp_l_least_costs K)) (C_l_put : Call1 P w K mg base CX0 lv_l_put "_law_put" (sp_l_put K)) (C_l_reading : Call1 P w K mg base CX0 lv_l_reading "_law_reading" (sp_l_reading K)) (C_l_stacked : Call1 P w K mg base CX0 lv_l_stacked "_law_stacked" (sp_l_stacked K)) : Call1 P w K mg base CX0 lv_l_quiet_so "_law_quiet_so" (sp_l_quiet_so K) := by
  refine fun_ok (k := 3) (N := ["_law_picture_so", "_law_prices_so", "_law_keys_so", "_law_k", "_law_costs_so", "_law_now_so", "_law_message_so", "_law_own"]) (ps := ["_law_picture_so", "_law_prices_so", "_law_keys_so", "_law_k"]) D sc_l_quiet_so (fun ds0 P0 hd => by obtain ⟨p, n, top, j, rs, ps, ks, rfl, h1, h2, h3, h4, h5, rfl⟩ := hd; rfl) (fun _ _ _ _ _ _ us hl => match us, hl with | [_, _, _, _], _ => rfl) fun f cdv A outer s H E hr => ⟨_, 
    (pss_cons (ps_set (i := 4) sc_l_quiet_so.nd rfl (by first | exact Or.inl rfl | exact Or.inr rfl) (pe_callC C_l_least_costs (hr.mono (by decide)) (by rfl) (pa_cons (pv 0) (pa_cons (pv 1) (pa_cons (pe_callC C_l_stacked (hr.mono (by decide)) (by rfl) (pa_cons (pv 2) pa_nil)) pa_nil)))) (hf := (by first | exact Or.inl rfl | exact Or.inr rfl)))
      (pss_cons (ps_set (i := 5) sc_l_quiet_so.nd rfl (by first | exact Or.inl rfl | exact Or.inr rfl) (pe_callTy (cTuple (K := K)) (by rfl) B.tuple (by decide +kernel) (pa_cons (pe_lc (own := [("_law_own", 7)]) (g := (gName 7)) (tt := tYes) rfl sc_l_quiet_so.nd (piTup (K := K) (pv 2)) (blkOk_by (N := ["_law_picture_so", "_law_prices_so", "_law_keys_so", "_law_k", "_law_costs_so", "_law_now_so", "_law_message_so", "_law_own"]) (sc := defScope s_l_quiet_so) (by decide +kernel)) (fun _ _ _ _ _ => (pgN (i := 7) sc_l_quiet_so.nd rfl (by first | exact Or.inl rfl | exact Or.inr rfl) (by first | exact Or.inl rfl | exact Or.inr rfl))) (fun _ _ _ _ _ => pts_nil) (fun _ _ _ _ _ => (pe_callC C_l_reading (hr.mono (by decide)) (by rfl) (pa_cons (pv 0) (pa_cons (pv 7) pa_nil))))) pa_nil)) (hf := (by first | exact Or.inl rfl | exact Or.inr rfl)))
      (pss_cons (ps_for (g := (gName 6)) PassesOwn.never rfl (piList (K := K) (pe_callC C_l_all_rows (hr.mono (by decide)) (by rfl) (pa_cons (pe_ix (ixT (K := K)) (pe_ix (ixT (K := K)) (pv 2) (pv 3) (fun _ _ => rfl)) pe_int (fun _ _ => rfl)) (pa_cons (pe_ix (ixT (K := K)) (pe_ix (ixT (K := K)) (pv 2) (pv 3) (fun _ _ => rfl)) pe_int (fun _ _ => rfl)) pa_nil)))) (pgN (i := 6) sc_l_quiet_so.nd rfl (by first | exact Or.inl rfl | exact Or.inr rfl) (by first | exact Or.inl rfl | exact Or.inr rfl)) (pss_one (ps_if (pt_cmp (pc_dnotin (hu1 hr.units) (pe_callB (cSum3 (K := K) rfl) (by rfl) B.sum (by decide +kernel) (pa_cons (pe_callC C_l_put (hr.mono (by decide)) (by rfl) (pa_cons (pv 5) (pa_cons (pv 3) (pa_cons (pv 6) pa_nil)))) (pa_cons (pe_tup pa_nil) pa_nil))) (pv 4))) (pss_one (ps_ret pe_bl)) pss_nil)))
      (pss_one (ps_ret pe_bl))))), fun ds0 P0 hd => ?_⟩
  obtain ⟨p, n, top, j, rs, ps, ks, rfl, h1, h2, h3, h4, h5, rfl⟩ := hd
  have hW := inOne_all h1
  have hl := h1.len
  have hn1 := h1.n1
  have hm := getD_some (rs := ks) h4 k0
  have hmem := List.mem_of_getElem? hm
  obtain ⟨q1, q2⟩ := h1.all _ hmem
  have hmj : (ks.getD j k0).m ≤ 8 := Nat.le_trans (sum_ge (List.mem_map.mpr ⟨_, hmem, rfl⟩)) h5
  refine sj_seq (sj_asgS (xs_dic (xad_cons (xd_var rfl) (xad_cons (xd_var rfl) (xad_cons (xc_l_stacked (xad_cons (xd_var rfl) xad_nil) h1) xad_nil))) ⟨p, n, top, rs, ps, inOne ks, rfl, h1.hp, hW, h2, h3, rfl⟩) fun s ⟨kvs, e, hD⟩ => ?_)
  subst e
  refine sj_seq (sj_asgD (d := rowsD (nowR p ks rs)) (xd_cb (xad_cons (xd_lcMap (xs := ks) (A := keyD) (js := [7]) (xid_tup (xd_var rfl)) (by simp) (by omega) (fun x hx => xg_name) (fun x hx => (xc_l_reading (p := p) (n := n) (xad_cons (xd_var rfl) (xad_cons (xd_var rfl) xad_nil)) h1.hp (h1.all x hx).1 h2))) xad_nil) (rc_tupE (enc := rowD) (g := fun k => readK p k (restsOf p rs)))) ?_)
  have hnl : (nowR p ks rs).length = ks.length := by simp [nowR]
  have hrl : ∀ r ∈ nowR p ks rs, r.length ≤ 300 := fun r hr => by
    obtain ⟨k, hk, rfl⟩ := List.mem_map.mp hr
    have := readZ_len (p := p) (zip_cols (h1.all k hk).1 (restsOf p rs)) ((restsOf p rs).zip k.cols).length
    rw [List.take_length] at this
    have h3 := (h1.all k hk).1.mm
    show (readZ p k.m _).length ≤ 300
    omega
  refine sj_seq (sj_forT (xs := allRows p (ks.getD j k0).m) (A := rowD) (xid_list (xc_l_all_rows (p := p) (xad_cons ((xd_op (xd_op (xd_var rfl) (xd_var rfl) (rd_ixG k0 h4)) xd_int (rd_ixT rfl)).is (by rw [q1.pp])) (xad_cons (xd_op (xd_op (xd_var rfl) (xd_var rfl) (rd_ixG k0 h4)) xd_int (rd_ixT rfl)) xad_nil)) h1.hp hmj)) (fun i δ _ => (∀ r ∈ (allRows p (ks.getD j k0).m).take i, Rch p (inOne ks).m (inOne ks).cols (canPay ps rs.flatten p) n (putR (nowR p ks rs) j r).flatten) ∧ ∃ s6 s7, δ = [.val (picD top rs), .val (pricesD ps), .val (keysD ks), .val (.int (j : Int)), .dic kvs, .val (rowsD (nowR p ks rs)), s6, s7]) ⟨fun r hr => by simp at hr, .un, .un, rfl⟩ (fun i x δ' m hx iv => ?_) (fun δ' m iv => ?_))
  · obtain ⟨hall, s6, s7, rfl⟩ := iv
    have hxm := List.mem_of_getElem? hx
    have hxl := (allRows_mem.mp hxm).1
    have hpl : (putR (nowR p ks rs) j x).length ≤ 100 := by simp [putR]; omega
    have hfl : (putR (nowR p ks rs) j x).flatten.length ≤ 30000 := flat_len2 (fun r hr => by
      simp only [putR, List.mem_append, List.mem_singleton] at hr
      rcases hr with (hr | hr) | hr
      · exact hrl r (List.mem_of_mem_take hr)
      · rw [hr]; omega
      · exact hrl r (List.mem_of_mem_drop hr)) hpl
    have hfe : ((putR (nowR p ks rs) j x).map (·.map PyData.int)).flatten = (putR (nowR p ks rs) j x).flatten.map PyData.int := by rw [← List.map_flatten]
    refine ⟨_, [6], xg_name, sj_if (xt_val (xd_notInDic (r := (putR (nowR p ks rs) j x).flatten) rfl (XD.is (xd_cb (xad_cons (xc_l_put (xad_cons (xd_var rfl) (xad_cons (xd_var rfl) (xad_cons (xd_var rfl) xad_nil))) (by omega)) (xad_cons (xd_tup xad_nil (by simp)) xad_nil)) (rc_sumTT (dss := (putR (nowR p ks rs) j x).map (·.map PyData.int)) ?_ ?_)) ?_))) (fun hb => sj_retD xd_bl ?_) (fun hb => sj_next ?_)⟩
    · rw [List.map_map]
      rfl
    · rw [hfe, List.length_map]
      omega
    · rw [hfe]
    · refine ⟨false, rfl, ⟨fun z => Bool.noConfusion z, fun h => ?_⟩⟩
      rcases hD.val (s := (putR (nowR p ks rs) j x).flatten) with hv | ⟨_, c, hv⟩
      · exact absurd ((hD.mem _).mpr ⟨_, rfl, h x hxm⟩) (valV_not hv)
      · rw [hv] at hb
        exact Bool.noConfusion hb
    · refine ⟨fun r hr => ?_, _, _, rfl⟩
      rw [List.take_succ, hx] at hr
      rcases List.mem_append.mp hr with hr | hr
      · exact hall r hr
      · simp only [Option.toList, List.mem_singleton] at hr
        subst hr
        rcases hD.val (s := (putR (nowR p ks rs) j r).flatten) with hv | ⟨hR, _⟩
        · rw [hv] at hb
          exact Bool.noConfusion hb
        · exact hR
  · obtain ⟨hall, s6, s7, rfl⟩ := iv
    rw [List.take_length] at hall
    exact sj_retD xd_bl ⟨true, rfl, ⟨fun _ => hall, fun _ => rfl⟩⟩
theorem sc_l_park : FnScope ["_law_ours", "_law_theirs"] [] (defScope s_l_park) := ⟨rfl, rfl, rfl, by decide +kernel, rfl, by decide +kernel, by decide +kernel⟩
def parkK : List Ky := [⟨2, 2, [[1, 0], [0, 1], [1, 1], [0, 0], [1, 0], [0, 1]]⟩, ⟨2, 1, [[1], [0], [0], [1], [1], [0]]⟩]
abbrev lv_l_park : Nat := 1
def dom_l_park : List PyData → (PyData → Prop) → Prop := fun ds0 P0 => ds0 = [] ∧ P0 = (fun z => z = .tuple [picD 7 [[3, 4, 5], [2, 2, 7]], pricesD [some 1, none, some 2, some 1, some 5, some 1], pricesD [none, none, some 2, none, none, some 1], keysD parkK])
abbrev sp_l_park (K : PySem.W.Frag) : Sp := SpD K dom_l_park
theorem xc_l_park {K : PySem.W.Frag} {tr : TA} {δ : List Sl}  (h0 : XAD K tr δ []) : XD K (tCall (sp_l_park K) [] E0 tr) δ (.tuple [picD 7 [[3, 4, 5], [2, 2, 7]], pricesD [some 1, none, some 2, some 1, some 5, some 1], pricesD [none, none, some 2, none, none, some 1], keysD parkK]) := xd_callD h0 ⟨rfl, rfl⟩
theorem ok_l_park (D : Df K mg "_law_park" s_l_park) (B : Bi mg) : Call1 P w K mg base CX0 lv_l_park "_law_park" (sp_l_park K) := by
  refine fun_ok (k := 0) (N := ["_law_ours", "_law_theirs"]) (ps := []) D sc_l_park (fun ds0 P0 hd => by obtain ⟨rfl, rfl⟩ := hd; rfl) (fun _ _ _ _ _ _ us hl => match us, hl with | [], _ => rfl) fun f cdv A outer s H E hr => ⟨_, 
    (pss_cons (ps_asg (g := (gTup K 2 (gCons (gName 0) (gCons (gName 1) gNil)))) (pe_tup (pa_cons (pe_tup (pa_cons pe_int (pa_cons pe_int (pa_cons (pe_tup (pa_cons (pe_tup (pa_cons pe_int (pa_cons pe_int pa_nil))) (pa_cons (pe_tup (pa_cons pe_int (pa_cons pe_int pa_nil))) (pa_cons (pe_tup (pa_cons pe_int (pa_cons pe_int pa_nil))) (pa_cons (pe_tup (pa_cons pe_int (pa_cons pe_int pa_nil))) (pa_cons (pe_tup (pa_cons pe_int (pa_cons pe_int pa_nil))) (pa_cons (pe_tup (pa_cons pe_int (pa_cons pe_int pa_nil))) pa_nil))))))) pa_nil)))) (pa_cons (pe_tup (pa_cons pe_int (pa_cons pe_int (pa_cons (pe_tup (pa_cons (pe_tup (pa_cons pe_int pa_nil)) (pa_cons (pe_tup (pa_cons pe_int pa_nil)) (pa_cons (pe_tup (pa_cons pe_int pa_nil)) (pa_cons (pe_tup (pa_cons pe_int pa_nil)) (pa_cons (pe_tup (pa_cons pe_int pa_nil)) (pa_cons (pe_tup (pa_cons pe_int pa_nil)) pa_nil))))))) pa_nil)))) pa_nil))) (pgTup (K := K) rfl (pgs_cons (pgN (i := 0) sc_l_park.nd rfl (by first | exact Or.inl rfl | exact Or.inr rfl) (by first | exact Or.inl rfl | exact Or.inr rfl)) (pgs_cons (pgN (i := 1) sc_l_park.nd rfl (by first | exact Or.inl rfl | exact Or.inr rfl) (by first | exact Or.inl rfl | exact Or.inr rfl)) pgs_nil))))
      (pss_one (ps_ret (pe_tup (pa_cons (pe_tup (pa_cons pe_int (pa_cons (pe_tup (pa_cons (pe_tup (pa_cons pe_int (pa_cons pe_int (pa_cons pe_int pa_nil)))) (pa_cons (pe_tup (pa_cons pe_int (pa_cons pe_int (pa_cons pe_int pa_nil)))) pa_nil))) pa_nil))) (pa_cons (pe_tup (pa_cons pe_int (pa_cons pe_non (pa_cons pe_int (pa_cons pe_int (pa_cons pe_int (pa_cons pe_int pa_nil))))))) (pa_cons (pe_tup (pa_cons pe_non (pa_cons pe_non (pa_cons pe_int (pa_cons pe_non (pa_cons pe_non (pa_cons pe_int pa_nil))))))) (pa_cons (pe_tup (pa_cons (pv 0) (pa_cons (pv 1) pa_nil))) pa_nil)))))))), fun ds0 P0 hd => ?_⟩
  obtain ⟨rfl, rfl⟩ := hd
  refine sj_seq (sj_asgGD (xd_tup (xad_cons (xd_tup (xad_cons xd_int (xad_cons xd_int (xad_cons (xd_tup (xad_cons (xd_tup (xad_cons xd_int (xad_cons xd_int xad_nil)) (by simp)) (xad_cons (xd_tup (xad_cons xd_int (xad_cons xd_int xad_nil)) (by simp)) (xad_cons (xd_tup (xad_cons xd_int (xad_cons xd_int xad_nil)) (by simp)) (xad_cons (xd_tup (xad_cons xd_int (xad_cons xd_int xad_nil)) (by simp)) (xad_cons (xd_tup (xad_cons xd_int (xad_cons xd_int xad_nil)) (by simp)) (xad_cons (xd_tup (xad_cons xd_int (xad_cons xd_int xad_nil)) (by simp)) xad_nil)))))) (by simp)) xad_nil))) (by simp)) (xad_cons (xd_tup (xad_cons xd_int (xad_cons xd_int (xad_cons (xd_tup (xad_cons (xd_tup (xad_cons xd_int xad_nil) (by simp)) (xad_cons (xd_tup (xad_cons xd_int xad_nil) (by simp)) (xad_cons (xd_tup (xad_cons xd_int xad_nil) (by simp)) (xad_cons (xd_tup (xad_cons xd_int xad_nil) (by simp)) (xad_cons (xd_tup (xad_cons xd_int xad_nil) (by simp)) (xad_cons (xd_tup (xad_cons xd_int xad_nil) (by simp)) xad_nil)))))) (by simp)) xad_nil))) (by simp)) xad_nil)) (by simp)) xg_tup2 ?_)
  exact sj_retD (xd_tup (xad_cons (xd_tup (xad_cons xd_int (xad_cons (xd_tup (xad_cons (xd_tup (xad_cons xd_int (xad_cons xd_int (xad_cons xd_int xad_nil))) (by simp)) (xad_cons (xd_tup (xad_cons xd_int (xad_cons xd_int (xad_cons xd_int xad_nil))) (by simp)) xad_nil)) (by simp)) xad_nil)) (by simp)) (xad_cons (xd_tup (xad_cons xd_int (xad_cons xd_non (xad_cons xd_int (xad_cons xd_int (xad_cons xd_int (xad_cons xd_int xad_nil)))))) (by simp)) (xad_cons (xd_tup (xad_cons xd_non (xad_cons xd_non (xad_cons xd_int (xad_cons xd_non (xad_cons xd_non (xad_cons xd_int xad_nil)))))) (by simp)) (xad_cons (xd_tup (xad_cons (xd_var rfl) (xad_cons (xd_var rfl) xad_nil)) (by simp)) xad_nil)))) (by simp)) rfl
end
end Dry

set_option Elab.async false
set_option linter.all false
set_option maxRecDepth 100000
set_option maxHeartbeats 4000000
namespace Dry
/-! ### the plain law: sums, congruences -/
def sm : Nat → (Nat → Int) → Int
  | 0, _ => 0
  | n + 1, f => sm n f + f n
theorem sm_congr {f g : Nat → Int} : ∀ {n : Nat}, (∀ i, i < n → f i = g i) → sm n f = sm n g
  | 0, _ => rfl
  | n + 1, h => by
    unfold sm
    rw [sm_congr (n := n) fun i hi => h i (by omega), h n (by omega)]
theorem sm_add {f g : Nat → Int} : ∀ {n : Nat}, sm n (fun i => f i + g i) = sm n f + sm n g
  | 0 => rfl
  | n + 1 => by
    unfold sm
    rw [sm_add (n := n)]
    show sm n f + sm n g + (f n + g n) = _
    omega
theorem sm_mul {f : Nat → Int} {a : Int} : ∀ {n : Nat}, sm n (fun i => a * f i) = a * sm n f
  | 0 => by simp [sm]
  | n + 1 => by
    unfold sm
    rw [sm_mul (n := n)]
    show a * sm n f + a * f n = _
    rw [Int.mul_add]
theorem sm_zero : ∀ {n : Nat}, sm n (fun _ => 0) = 0
  | 0 => rfl
  | n + 1 => by
    unfold sm
    rw [sm_zero (n := n)]
    rfl
theorem sm_swap {f : Nat → Nat → Int} {k : Nat} : ∀ {n : Nat}, sm n (fun i => sm k (fun j => f i j)) = sm k (fun j => sm n (fun i => f i j))
  | 0 => by simp [sm, sm_zero]
  | n + 1 => by
    have e : sm k (fun j => sm (n + 1) (fun i => f i j)) = sm k (fun j => sm n (fun i => f i j) + f n j) := rfl
    rw [e, sm_add, ← sm_swap (n := n)]
    rfl
theorem sm_left {f : Nat → Int} : ∀ {n : Nat}, sm (n + 1) f = f 0 + sm n (fun i => f (i + 1))
  | 0 => by simp [sm]
  | n + 1 => by
    rw [show sm (n + 1 + 1) f = sm (n + 1) f + f (n + 1) from rfl, sm_left (n := n)]
    show _ = f 0 + (sm n (fun i => f (i + 1)) + f (n + 1))
    omega
def Cg (p : Nat) (x y : Int) : Prop := (p : Int) ∣ x - y
section
variable {p : Nat} {x y z a b c : Int}
theorem Cg.refl : Cg p x x := by
  unfold Cg
  rw [Int.sub_self]
  exact Int.dvd_zero _
theorem Cg.of (h : x = y) : Cg p x y := by rw [h]; exact Cg.refl
theorem Cg.symm (h : Cg p x y) : Cg p y x := by
  unfold Cg at h ⊢
  have := Int.dvd_neg.mpr h
  rwa [Int.neg_sub] at this
theorem Cg.trans (h : Cg p x y) (k : Cg p y z) : Cg p x z := by
  unfold Cg at h k ⊢
  have := Int.dvd_add h k
  rwa [show x - y + (y - z) = x - z by omega] at this
theorem Cg.add (h : Cg p x y) (k : Cg p a b) : Cg p (x + a) (y + b) := by
  unfold Cg at h k ⊢
  have := Int.dvd_add h k
  rwa [show x - y + (a - b) = x + a - (y + b) by omega] at this
theorem Cg.sub (h : Cg p x y) (k : Cg p a b) : Cg p (x - a) (y - b) := by
  unfold Cg at h k ⊢
  have := Int.dvd_sub h k
  rwa [show x - y - (a - b) = x - a - (y - b) by omega] at this
theorem Cg.mul (h : Cg p x y) (k : Cg p a b) : Cg p (x * a) (y * b) := by
  unfold Cg at h k ⊢
  have h1 : (p : Int) ∣ (x - y) * a := Int.dvd_trans h (Int.dvd_mul_right _ _)
  have h2 : (p : Int) ∣ y * (a - b) := Int.dvd_trans k (Int.dvd_mul_left _ _)
  have := Int.dvd_add h1 h2
  rwa [show (x - y) * a + y * (a - b) = x * a - y * b by rw [Int.sub_mul, Int.mul_sub]; omega] at this
theorem Cg.mod : Cg p (x % (p : Int)) x := by
  unfold Cg
  rw [Int.emod_def]
  exact ⟨-(x / p), by rw [Int.mul_neg]; omega⟩
theorem Cg.zero (h : Cg p x 0) : (p : Int) ∣ x := by
  unfold Cg at h
  rwa [Int.sub_zero] at h
theorem Cg.emod (h : Cg p x y) : x % (p : Int) = y % (p : Int) := Int.emod_eq_emod_iff_emod_sub_eq_zero.mpr (Int.emod_eq_zero_of_dvd h)
theorem Cg.of_emod (h : x % (p : Int) = y % (p : Int)) : Cg p x y := (Cg.mod.symm.trans (Cg.of h)).trans Cg.mod
theorem Cg.dig (h : Cg p x y) (hx : 0 ≤ x ∧ x < (p : Int)) (hy : 0 ≤ y ∧ y < (p : Int)) : x = y := by
  have := h.emod
  rwa [Int.emod_eq_of_lt hx.1 hx.2, Int.emod_eq_of_lt hy.1 hy.2] at this
theorem Cg.mul0 (h : Cg p x 0) : Cg p (x * a) 0 := by
  have := h.mul (Cg.refl (x := a))
  rwa [Int.zero_mul] at this
theorem Cg.mul0' (h : Cg p x 0) : Cg p (a * x) 0 := by
  rw [Int.mul_comm]
  exact h.mul0
end
section
variable {p : Nat} {f g : Nat → Int}
theorem sm_cg : ∀ {n : Nat}, (∀ i, i < n → Cg p (f i) (g i)) → Cg p (sm n f) (sm n g)
  | 0, _ => Cg.refl
  | n + 1, h => (sm_cg (n := n) fun i hi => h i (by omega)).add (h n (by omega))
theorem sm_cg0 {n : Nat} (h : ∀ i, i < n → Cg p (f i) 0) : Cg p (sm n f) 0 := (sm_cg h).trans (Cg.of sm_zero)
theorem sm_one {a : Nat} : ∀ {n : Nat}, a < n → (∀ i, i < n → i ≠ a → Cg p (f i) 0) → Cg p (sm n f) (f a)
  | n + 1, ha, h => by
    by_cases e : a = n
    · subst e
      have := (sm_cg0 (p := p) (f := f) (n := a) fun i hi => h i (by omega) (by omega)).add (Cg.refl (x := f a))
      rwa [Int.zero_add] at this
    · have := (sm_one (n := n) (by omega) fun i hi hn => h i (by omega) hn).add (h n (by omega) (by omega))
      rwa [Int.add_zero] at this
theorem sm_two {a b : Nat} (hab : a ≠ b) : ∀ {n : Nat}, a < n → b < n → (∀ i, i < n → i ≠ a → i ≠ b → Cg p (f i) 0) → Cg p (sm n f) (f a + f b)
  | n + 1, ha, hb, h => by
    by_cases e : a = n
    · subst e
      have := (sm_one (p := p) (f := f) (a := b) (n := a) (by omega) fun i hi hn => h i (by omega) (by omega) hn).add (Cg.refl (x := f a))
      rwa [Int.add_comm (f b)] at this
    · by_cases e2 : b = n
      · subst e2
        exact (sm_one (p := p) (f := f) (a := a) (n := b) (by omega) fun i hi hn => h i (by omega) hn (by omega)).add (Cg.refl (x := f b))
      · have := (sm_two hab (n := n) (by omega) (by omega) fun i hi h1 h2 => h i (by omega) h1 h2).add (h n (by omega) (by omega) (by omega))
        rwa [Int.add_zero] at this
end
/-! ### rows as functions -/
theorem zipmap_getD {h : Int × Int → Int} {a b : List Int} {i : Nat} (h1 : i < a.length) (h2 : i < b.length) : ((a.zip b).map h).getD i 0 = h (a.getD i 0, b.getD i 0) := by
  simp only [List.getD_eq_getElem?_getD, List.getElem?_map, List.zip_eq_zipWith, List.getElem?_zipWith, List.getElem?_eq_getElem h1, List.getElem?_eq_getElem h2]
  rfl
theorem map_getD' {h : Int → Int} {a : List Int} {i : Nat} (h1 : i < a.length) : (a.map h).getD i 0 = h (a.getD i 0) := by
  simp only [List.getD_eq_getElem?_getD, List.getElem?_map, List.getElem?_eq_getElem h1]
  rfl
theorem dot_sm : ∀ {a b : List Int} {m : Nat}, a.length = m → b.length = m → dot a b = sm m (fun i => a.getD i 0 * b.getD i 0)
  | [], [], 0, _, _ => rfl
  | x :: a, y :: b, m + 1, h1, h2 => by
    have ih := dot_sm (a := a) (b := b) (m := m) (by simpa using h1) (by simpa using h2)
    rw [sm_left]
    show x * y + dot a b = x * y + _
    rw [ih]
    rfl
  | [], [], m + 1, h1, _ => by simp at h1
  | [], _ :: _, m, h1, h2 => by subst h1; simp at h2
  | _ :: _, [], m, h1, h2 => by subst h2; simp at h1
  | _ :: _, _ :: _, 0, h1, _ => by simp at h1
section
variable {p m i : Nat} {a b : List Int} {d : Int}
theorem times_at (hi : i < a.length) : Cg p ((rowTimes p d a).getD i 0) (d * a.getD i 0) := by
  unfold rowTimes
  rw [map_getD' hi]
  exact Cg.mod
theorem less_at' (h1 : i < a.length) (h2 : i < b.length) : Cg p ((rowLess p a b).getD i 0) (a.getD i 0 - b.getD i 0) := by
  unfold rowLess
  rw [zipmap_getD h1 h2]
  exact Cg.mod
theorem plus_at (h1 : i < a.length) (h2 : i < b.length) : Cg p ((rowPlus p a b).getD i 0) (a.getD i 0 + b.getD i 0) := by
  unfold rowPlus
  rw [zipmap_getD h1 h2]
  exact Cg.mod
theorem lessAt_at {j : Nat} (h1 : a.length = m) (h2 : b.length = m) (hi : i < m) : Cg p ((lessAt p a b j).getD i 0) (a.getD i 0 - a.getD j 0 * b.getD i 0) := by
  unfold lessAt
  refine (less_at' (by omega) (by rw [len_times]; omega)).trans ?_
  exact Cg.refl.sub (times_at (by omega))
theorem row_ext {m : Nat} (h1 : a.length = m) (h2 : b.length = m) (h : ∀ i, i < m → a.getD i 0 = b.getD i 0) : a = b := by
  apply List.ext_getElem (by omega)
  intro i hi hj
  have := h i (by omega)
  simpa [List.getD_eq_getElem?_getD, List.getElem?_eq_getElem hi, List.getElem?_eq_getElem hj] using this
end
end Dry

set_option Elab.async false
set_option linter.all false
set_option maxRecDepth 100000
set_option maxHeartbeats 4000000
namespace Dry
/-! ### spans -/
inductive Spn (p m : Nat) (C : List (List Int)) : (Nat → Int) → Prop
  | zero : Spn p m C (fun _ => 0)
  | add {c : List Int} {v : Nat → Int} (a : Int) : c ∈ C → Spn p m C v → Spn p m C (fun i => v i + a * c.getD i 0)
  | congr {v w : Nat → Int} : Spn p m C v → (∀ i, i < m → Cg p (v i) (w i)) → Spn p m C w
section
variable {p m : Nat} {C C' : List (List Int)} {v w : Nat → Int}
theorem Spn.sum (h : Spn p m C v) (k : Spn p m C w) : Spn p m C (fun i => v i + w i) := by
  induction k with
  | zero => exact h.congr fun i _ => Cg.of (by (try dsimp only); omega)
  | add a hc k ih => exact (ih.add a hc).congr fun i _ => Cg.of (by (try dsimp only); omega)
  | congr k e ih => exact ih.congr fun i hi => Cg.refl.add (e i hi)
theorem Spn.smul (a : Int) (h : Spn p m C v) : Spn p m C (fun i => a * v i) := by
  induction h with
  | zero => exact Spn.zero.congr fun i _ => Cg.of (by rw [Int.mul_zero])
  | add b hc k ih => exact (ih.add (a * b) hc).congr fun i _ => Cg.of (by rw [Int.mul_add, Int.mul_assoc])
  | congr k e ih => exact ih.congr fun i hi => Cg.refl.mul (e i hi)
theorem Spn.diff (h : Spn p m C v) (k : Spn p m C w) : Spn p m C (fun i => v i - w i) := (h.sum (k.smul (-1))).congr fun i _ => Cg.of (by (try dsimp only); omega)
theorem Spn.of {c : List Int} (h : c ∈ C) : Spn p m C (fun i => c.getD i 0) := (Spn.zero.add 1 h).congr fun i _ => Cg.of (by (try dsimp only); omega)
theorem Spn.mono (h : Spn p m C v) (hs : ∀ c ∈ C, Spn p m C' (fun i => c.getD i 0)) : Spn p m C' v := by
  induction h with
  | zero => exact Spn.zero
  | add a hc k ih => exact ih.sum ((hs _ hc).smul a)
  | congr k e ih => exact ih.congr e
theorem Spn.sub (h : Spn p m C v) (hs : ∀ c ∈ C, c ∈ C') : Spn p m C' v := h.mono fun c hc => Spn.of (hs c hc)
/-- what annihilates the rows annihilates their span -/
theorem Spn.dot {u : Nat → Int} (h : Spn p m C v) (hu : ∀ c ∈ C, Cg p (sm m fun i => u i * c.getD i 0) 0) : Cg p (sm m fun i => u i * v i) 0 := by
  induction h with
  | zero => exact Cg.of ((sm_congr (g := fun _ => 0) fun i _ => Int.mul_zero _).trans sm_zero)
  | @add c v a hc k ih =>
    have e : sm m (fun i => u i * (v i + a * c.getD i 0)) = sm m (fun i => u i * v i) + a * sm m (fun i => u i * c.getD i 0) := by
      rw [← sm_mul, ← sm_add]
      exact sm_congr fun i _ => by rw [Int.mul_add, Int.mul_left_comm]
    rw [e]
    have := ih.add ((hu c hc).mul0' (a := a))
    rwa [Int.add_zero] at this
  | congr k e ih => exact (sm_cg fun i hi => Cg.refl.mul (e i hi).symm).trans ih
end
/-! ### the state of the elimination -/
structure GI (p m : Nat) (C : List (List Int)) (L : List (Nat × List Int)) : Prop where
  ok : LOk p m L
  nd : (L.map (·.1)).Nodup
  one : ∀ x ∈ L, Cg p (x.2.getD x.1 0) 1
  zero : ∀ x ∈ L, ∀ y ∈ L, x.1 ≠ y.1 → Cg p (y.2.getD x.1 0) 0
  sp : ∀ x ∈ L, Spn p m C (fun i => x.2.getD i 0)
  ps : ∀ c ∈ C, Spn p m (L.map (·.2)) (fun i => c.getD i 0)
theorem red_cons {p : Nat} {x : Nat × List Int} {L : List (Nat × List Int)} {v : List Int} : red p (x :: L) v = red p L (lessAt p v x.2 x.1) := rfl
/-- what is left of a row -/
theorem red_spec {p m : Nat} : ∀ {L : List (Nat × List Int)} {v : List Int}, LOk p m L → v.length = m →
    ∃ s, Spn p m (L.map (·.2)) s ∧ ∀ i, i < m → Cg p ((red p L v).getD i 0) (v.getD i 0 - s i)
  | [], v, _, _ => ⟨fun _ => 0, Spn.zero, fun i _ => Cg.of (by show v.getD i 0 = v.getD i 0 - 0; omega)⟩
  | x :: L, v, h, hv => by
    have hx := h.len x (by simp)
    have h' : LOk p m L := ⟨fun y hy => h.lt y (by simp [hy]), fun y hy => h.len y (by simp [hy]), fun y hy => h.dig y (by simp [hy])⟩
    obtain ⟨s, hs, e⟩ := red_spec (v := lessAt p v x.2 x.1) h' (len_lessAt hv hx)
    refine ⟨fun i => s i + v.getD x.1 0 * x.2.getD i 0, (hs.sub fun c hc => by simp [hc]).add _ (by simp), fun i hi => ?_⟩
    rw [red_cons]
    refine (e i hi).trans (((lessAt_at hv hx hi).sub (Cg.refl (x := s i))).trans (Cg.of (by (try dsimp only); omega)))
theorem red_zero {p m : Nat} : ∀ {L D : List (Nat × List Int)} {v : List Int}, LOk p m (D ++ L) → v.length = m → (∀ x ∈ D ++ L, Cg p (x.2.getD x.1 0) 1) → (∀ x ∈ D ++ L, ∀ y ∈ D ++ L, x.1 ≠ y.1 → Cg p (y.2.getD x.1 0) 0) → ((D ++ L).map (·.1)).Nodup →
    (∀ x ∈ D, Cg p (v.getD x.1 0) 0) → ∀ x ∈ D ++ L, Cg p ((red p L v).getD x.1 0) 0
  | [], D, v, _, _, _, _, _, hD, x, hx => by
    rw [List.append_nil] at hx
    exact hD x hx
  | y :: L, D, v, h, hv, h1, h0, hn, hD, x, hx => by
    have hy := h.len y (by simp)
    have e : (D ++ [y]) ++ L = D ++ y :: L := by simp
    rw [red_cons]
    refine red_zero (L := L) (D := D ++ [y]) (v := lessAt p v y.2 y.1) (by rw [e]; exact h) (len_lessAt hv hy) (by rw [e]; exact h1) (by rw [e]; exact h0) (by rw [e]; exact hn) (fun z hz => ?_) x (by rw [e]; exact hx)
    have hzm : z ∈ D ++ y :: L := by
      rw [← e]
      exact List.mem_append_left _ hz
    refine (lessAt_at hv hy (h.lt z hzm)).trans ?_
    rcases List.mem_append.mp hz with hz | hz
    · have hne : z.1 ≠ y.1 := fun q => by
        rw [List.map_append, List.nodup_append] at hn
        exact hn.2.2 z.1 (List.mem_map.mpr ⟨z, hz, rfl⟩) y.1 (by simp) q
      have a := (hD z hz).sub ((h0 z hzm y (by simp) hne).mul0' (a := v.getD y.1 0))
      rwa [Int.sub_zero] at a
    · simp only [List.mem_singleton] at hz
      subst hz
      have a := (Cg.refl (x := v.getD z.1 0)).sub ((Cg.refl (x := v.getD z.1 0)).mul (h1 z (by simp)))
      rwa [Int.mul_one, Int.sub_self] at a
theorem GI.red0 {p m : Nat} {C : List (List Int)} {L : List (Nat × List Int)} (g : GI p m C L) {v : List Int} (hv : v.length = m) : ∀ x ∈ L, Cg p ((red p L v).getD x.1 0) 0 := fun x hx =>
  red_zero (L := L) (D := []) g.ok hv g.one g.zero g.nd (fun x hx => by simp at hx) x hx
theorem GI.nil {p m : Nat} : GI p m [] [] := ⟨⟨by simp, by simp, by simp⟩, by simp, by simp, by simp, by simp, by simp⟩
theorem GI.perm {p m : Nat} {C : List (List Int)} {L L' : List (Nat × List Int)} (g : GI p m C L) (h : L'.Perm L) : GI p m C L' := by
  have hm : ∀ x, x ∈ L' ↔ x ∈ L := fun x => h.mem_iff
  refine ⟨⟨fun x hx => g.ok.lt x ((hm x).mp hx), fun x hx => g.ok.len x ((hm x).mp hx), fun x hx => g.ok.dig x ((hm x).mp hx)⟩, (h.map _).nodup_iff.mpr g.nd, fun x hx => g.one x ((hm x).mp hx), fun x hx y hy => g.zero x ((hm x).mp hx) y ((hm y).mp hy), fun x hx => g.sp x ((hm x).mp hx), fun c hc => (g.ps c hc).sub fun d hd => ?_⟩
  obtain ⟨x, hx, rfl⟩ := List.mem_map.mp hd
  exact List.mem_map.mpr ⟨x, (hm x).mpr hx, rfl⟩
theorem lead_none {r : List Int} (h : leadAt r = none) : ∀ i, r.getD i 0 = 0 := fun i => by
  unfold leadAt at h
  rw [List.findIdx?_eq_none_iff] at h
  rw [List.getD_eq_getElem?_getD]
  cases e : r[i]? with
  | none => rfl
  | some x =>
    have := h x (List.mem_of_getElem? e)
    simpa using this
/-- a digit of {1, 2} mod 2, 3 is its own inverse -/
theorem inv_dig {p : Nat} (hp : p = 2 ∨ p = 3) {x : Int} (h : 0 ≤ x ∧ x < (p : Int)) (h0 : x ≠ 0) : Cg p (x * x) 1 := by
  have hc : x = 1 ∨ (p = 3 ∧ x = 2) := by omega
  rcases hc with rfl | ⟨rfl, rfl⟩
  · exact Cg.of rfl
  · exact ⟨1, rfl⟩
theorem GI.with {p m : Nat} (hp : p = 2 ∨ p = 3) {C : List (List Int)} {L : List (Nat × List Int)} {row : List Int} (g : GI p m C L) (hr : row.length = m) (hd : Dig p row) : GI p m (C ++ [row]) (withRow p L row) := by
  have p0 : 0 < p := by omega
  obtain ⟨l1, l2⟩ := red_ok p0 g.ok hr hd
  obtain ⟨s, hs, es⟩ := red_spec g.ok hr
  have hz := g.red0 hr
  have spr : ∀ {v : Nat → Int}, Spn p m C v → Spn p m (C ++ [row]) v := fun h => h.sub fun c hc => by simp [hc]
  have spL : ∀ {v : Nat → Int}, Spn p m (L.map (·.2)) v → Spn p m (C ++ [row]) v := fun h => h.mono fun c hc => by
    obtain ⟨x, hx, rfl⟩ := List.mem_map.mp hc
    exact spr (g.sp x hx)
  have hok := withRow_ok p0 g.ok hr hd
  unfold withRow at hok ⊢
  cases e : leadAt (red p L row) with
  | none =>
    simp only [e]
    refine ⟨g.ok, g.nd, g.one, g.zero, fun x hx => spr (g.sp x hx), fun c hc => ?_⟩
    rcases List.mem_append.mp hc with hc | hc
    · exact g.ps c hc
    · simp only [List.mem_singleton] at hc
      subst hc
      refine hs.congr fun i hi => ?_
      have := (es i hi).symm
      rw [lead_none e i] at this
      have := this.add (Cg.refl (x := s i))
      exact ((Cg.of (show s i = 0 + s i by omega)).trans this.symm).trans (Cg.of (by (try dsimp only); omega))
  | some w =>
    simp only [e] at hok ⊢
    obtain ⟨hw, hw0⟩ := lead_lt e
    rw [l1] at hw
    have hwd := l2.getD p0 w
    generalize hR : red p L row = R at *
    have hol : (owned p R w).length = m := by rw [owned, len_times, l1]
    have hoa : ∀ i, i < m → Cg p ((owned p R w).getD i 0) (R.getD w 0 * R.getD i 0) := fun i hi => times_at (by omega)
    have how : Cg p ((owned p R w).getD w 0) 1 := (hoa w hw).trans (inv_dig hp hwd hw0)
    have hoz : ∀ x ∈ L, Cg p ((owned p R w).getD x.1 0) 0 := fun x hx => (hoa x.1 (g.ok.lt x hx)).trans ((hz x hx).mul0')
    have hwn : ∀ x ∈ L, x.1 ≠ w := fun x hx q => by
      have := hz x hx
      rw [q] at this
      exact hw0 (this.dig hwd ⟨Int.le_refl 0, by omega⟩)
    have hla : ∀ x ∈ L, ∀ i, i < m → Cg p ((lessAt p x.2 (owned p R w) w).getD i 0) (x.2.getD i 0 - x.2.getD w 0 * (owned p R w).getD i 0) := fun x hx i hi => lessAt_at (g.ok.len x hx) hol hi
    have spO : Spn p m (C ++ [row]) (fun i => (owned p R w).getD i 0) := by
      have h1 : Spn p m (C ++ [row]) (fun i => row.getD i 0 - s i) := (Spn.of (by simp)).diff (spL hs)
      refine (h1.smul (R.getD w 0)).congr fun i hi => ?_
      exact ((hoa i hi).trans (Cg.refl.mul (es i hi))).symm
    refine GI.perm (L := L.map (fun x => (x.1, lessAt p x.2 (owned p R w) w)) ++ [(w, owned p R w)]) ?_ (srt_perm _)
    have hLk : LOk p m (L.map (fun x => (x.1, lessAt p x.2 (owned p R w) w)) ++ [(w, owned p R w)]) := by
      have hm := fun x => (srt_perm (L.map (fun x => (x.1, lessAt p x.2 (owned p R w) w)) ++ [(w, owned p R w)])).mem_iff (a := x)
      exact ⟨fun x hx => hok.1.lt x ((hm x).mpr hx), fun x hx => hok.1.len x ((hm x).mpr hx), fun x hx => hok.1.dig x ((hm x).mpr hx)⟩
    refine ⟨hLk, ?_, fun x hx => ?_, fun x hx y hy hne => ?_, fun x hx => ?_, fun c hc => ?_⟩
    · rw [List.map_append, List.map_map, List.nodup_append]
      refine ⟨g.nd, by simp, fun a ha b hb => ?_⟩
      obtain ⟨x, hx, rfl⟩ := List.mem_map.mp ha
      simp only [List.map_cons, List.map_nil, List.mem_singleton] at hb
      rw [hb]
      exact hwn x hx
    · rcases List.mem_append.mp hx with hx | hx
      · obtain ⟨y, hy, rfl⟩ := List.mem_map.mp hx
        have a := (hla y hy y.1 (g.ok.lt y hy)).trans ((g.one y hy).sub ((hoz y hy).mul0' (a := y.2.getD w 0)))
        rwa [Int.sub_zero] at a
      · simp only [List.mem_singleton] at hx
        rw [hx]
        exact how
    · rcases List.mem_append.mp hx with hx | hx
      · obtain ⟨x', hx', rfl⟩ := List.mem_map.mp hx
        rcases List.mem_append.mp hy with hy | hy
        · obtain ⟨y', hy', rfl⟩ := List.mem_map.mp hy
          have a := (hla y' hy' x'.1 (g.ok.lt x' hx')).trans ((g.zero x' hx' y' hy' hne).sub ((hoz x' hx').mul0' (a := y'.2.getD w 0)))
          rwa [Int.sub_zero] at a
        · simp only [List.mem_singleton] at hy
          rw [hy]
          exact hoz x' hx'
      · simp only [List.mem_singleton] at hx
        subst hx
        rcases List.mem_append.mp hy with hy | hy
        · obtain ⟨y', hy', rfl⟩ := List.mem_map.mp hy
          have a := (hla y' hy' w hw).trans ((Cg.refl (x := y'.2.getD w 0)).sub ((Cg.refl (x := y'.2.getD w 0)).mul how))
          rwa [Int.mul_one, Int.sub_self] at a
        · simp only [List.mem_singleton] at hy
          subst hy
          exact absurd rfl hne
    · rcases List.mem_append.mp hx with hx | hx
      · obtain ⟨y, hy, rfl⟩ := List.mem_map.mp hx
        exact ((spr (g.sp y hy)).diff (spO.smul (y.2.getD w 0))).congr fun i hi => (hla y hy i hi).symm
      · simp only [List.mem_singleton] at hx
        rw [hx]
        exact spO
    · have spN : Spn p m ((L.map (fun x => (x.1, lessAt p x.2 (owned p R w) w)) ++ [(w, owned p R w)]).map (·.2)) (fun i => (owned p R w).getD i 0) := Spn.of (by simp)
      have spM : ∀ {v : Nat → Int}, Spn p m (L.map (·.2)) v → Spn p m ((L.map (fun x => (x.1, lessAt p x.2 (owned p R w) w)) ++ [(w, owned p R w)]).map (·.2)) v := fun h => h.mono fun c hc => by
        obtain ⟨x, hx, rfl⟩ := List.mem_map.mp hc
        have h1 : Spn p m ((L.map (fun x => (x.1, lessAt p x.2 (owned p R w) w)) ++ [(w, owned p R w)]).map (·.2)) (fun i => (lessAt p x.2 (owned p R w) w).getD i 0) := Spn.of (by
          rw [List.map_append, List.map_map]
          exact List.mem_append_left _ (List.mem_map.mpr ⟨x, hx, rfl⟩))
        refine (h1.sum (spN.smul (x.2.getD w 0))).congr fun i hi => ?_
        exact ((hla x hx i hi).add Cg.refl).trans (Cg.of (by (try dsimp only); omega))
      rcases List.mem_append.mp hc with hc | hc
      · exact spM (g.ps c hc)
      · simp only [List.mem_singleton] at hc
        subst hc
        refine ((spM hs).sum (spN.smul (R.getD w 0))).congr fun i hi => ?_
        have h1 : Cg p (R.getD w 0 * (owned p R w).getD i 0) (R.getD i 0) := by
          have := (Cg.refl (x := R.getD w 0)).mul (hoa i hi)
          rw [← Int.mul_assoc] at this
          refine this.trans ?_
          have := (inv_dig hp hwd hw0).mul (Cg.refl (x := R.getD i 0))
          rwa [Int.one_mul] at this
        refine ((Cg.refl (x := s i)).add (h1.trans (es i hi))).trans (Cg.of (by (try dsimp only); omega))
theorem GI.leads {p m : Nat} (hp : p = 2 ∨ p = 3) {rs : List (List Int)} (h : ∀ r ∈ rs, r.length = m ∧ Dig p r) : ∀ i, i ≤ rs.length → GI p m (rs.take i) (leadsOf p (rs.take i))
  | 0, _ => by simpa [leadsOf] using GI.nil
  | i + 1, hi => by
    have g := GI.leads hp h i (by omega)
    have e : rs[i]? = some rs[i] := List.getElem?_eq_getElem (by omega)
    rw [leads_succ e, List.take_succ, e]
    exact g.with hp (h _ (List.getElem_mem _)).1 (h _ (List.getElem_mem _)).2
end Dry

set_option Elab.async false
set_option linter.all false
set_option maxRecDepth 100000
set_option maxHeartbeats 4000000
namespace Dry
/-! ### backwards -/
theorem rev_getD {r : List Int} {m i : Nat} (h : r.length = m) (hi : i < m) : r.reverse.getD i 0 = r.getD (m - 1 - i) 0 := by
  rw [List.getD_eq_getElem?_getD, List.getD_eq_getElem?_getD, List.getElem?_reverse (by omega), h]
theorem Spn.rev {p m : Nat} {C : List (List Int)} (hC : ∀ c ∈ C, c.length = m) {v : Nat → Int} (h : Spn p m (C.map List.reverse) v) : Spn p m C (fun i => v (m - 1 - i)) := by
  induction h with
  | zero => exact Spn.zero
  | @add c v a hc k ih =>
    obtain ⟨d, hd, rfl⟩ := List.mem_map.mp hc
    refine (ih.add a hd).congr fun i hi => Cg.of ?_
    show v (m - 1 - i) + a * d.getD i 0 = v (m - 1 - i) + a * d.reverse.getD (m - 1 - i) 0
    rw [rev_getD (hC d hd) (by omega), show m - 1 - (m - 1 - i) = i by omega]
  | congr k e ih => exact ih.congr fun i hi => e _ (by omega)
theorem GI.rev {p m : Nat} {C : List (List Int)} {L : List (Nat × List Int)} (hC : ∀ c ∈ C, c.length = m) (g : GI p m (C.map List.reverse) L) : GI p m C (revLeads m L) := by
  have hL : ∀ c ∈ L.map (·.2), c.length = m := fun c hc => by
    obtain ⟨x, hx, rfl⟩ := List.mem_map.mp hc
    exact g.ok.len x hx
  have e2 : (revLeads m L).map (·.2) = (L.map (·.2)).map List.reverse := by simp [revLeads, List.map_map, Function.comp_def]
  have hrr : ∀ D : List (List Int), (D.map List.reverse).map List.reverse = D := fun D => by simp [List.map_map, Function.comp_def]
  refine ⟨rev_ok g.ok, ?_, fun x hx => ?_, fun x hx y hy hne => ?_, fun x hx => ?_, fun c hc => ?_⟩
  · have e1 : (revLeads m L).map (·.1) = (L.map (·.1)).map (fun i => m - 1 - i) := by simp [revLeads, List.map_map, Function.comp_def]
    rw [e1]
    have hlt : ∀ i ∈ L.map (·.1), i < m := fun i hi => by
      obtain ⟨x, hx, rfl⟩ := List.mem_map.mp hi
      exact g.ok.lt x hx
    have hn := g.nd
    generalize L.map (·.1) = I at hlt hn
    induction I with
    | nil => simp
    | cons a I ih =>
      rw [List.nodup_cons] at hn
      rw [List.map_cons, List.nodup_cons]
      refine ⟨fun hm => ?_, ih (fun i hi => hlt i (by simp [hi])) hn.2⟩
      obtain ⟨b, hb, e⟩ := List.mem_map.mp hm
      have h1 := hlt a (by simp)
      have h2 := hlt b (by simp [hb])
      have : a = b := by omega
      exact hn.1 (by rw [this]; exact hb)
  · obtain ⟨y, hy, rfl⟩ := List.mem_map.mp hx
    have := g.ok.lt y hy
    show Cg p (y.2.reverse.getD (m - 1 - y.1) 0) 1
    rw [rev_getD (g.ok.len y hy) (by omega), show m - 1 - (m - 1 - y.1) = y.1 by omega]
    exact g.one y hy
  · obtain ⟨x', hx', rfl⟩ := List.mem_map.mp hx
    obtain ⟨y', hy', rfl⟩ := List.mem_map.mp hy
    have h1 := g.ok.lt x' hx'
    show Cg p (y'.2.reverse.getD (m - 1 - x'.1) 0) 0
    rw [rev_getD (g.ok.len y' hy') (by omega), show m - 1 - (m - 1 - x'.1) = x'.1 by omega]
    refine g.zero x' hx' y' hy' fun q => hne ?_
    show m - 1 - x'.1 = m - 1 - y'.1
    rw [q]
  · obtain ⟨y, hy, rfl⟩ := List.mem_map.mp hx
    refine ((g.sp y hy).rev hC).congr fun i hi => Cg.of ?_
    exact (rev_getD (g.ok.len y hy) hi).symm
  · have h1 := g.ps c.reverse (List.mem_map.mpr ⟨c, hc, rfl⟩)
    rw [← hrr (L.map (·.2))] at h1
    have h2 := h1.rev (fun d hd => by
      obtain ⟨d', hd', rfl⟩ := List.mem_map.mp hd
      simpa using hL d' hd')
    rw [e2]
    refine h2.congr fun i hi => Cg.of ?_
    show c.reverse.getD (m - 1 - i) 0 = c.getD i 0
    rw [rev_getD (hC c hc) (by omega), show m - 1 - (m - 1 - i) = i by omega]
theorem leadsB_GI {p m : Nat} (hp : p = 2 ∨ p = 3) {rs : List (List Int)} (h : ∀ r ∈ rs, r.length = m ∧ Dig p r) : GI p m rs (leadsB p m rs) := by
  have h' : ∀ r ∈ rs.map List.reverse, r.length = m ∧ Dig p r := fun r hr => by
    obtain ⟨y, hy, rfl⟩ := List.mem_map.mp hr
    exact ⟨by simpa using (h y hy).1, fun z hz => (h y hy).2 z (by simpa using hz)⟩
  have g := GI.leads hp h' (rs.map List.reverse).length (Nat.le_refl _)
  rw [List.take_length] at g
  exact g.rev fun c hc => (h c hc).1
/-! ### the free rows -/
theorem set_getD {r : List Int} {j k : Nat} {x : Int} : (r.set j x).getD k 0 = if j = k then (if k < r.length then x else 0) else r.getD k 0 := by
  rw [List.getD_eq_getElem?_getD, List.getD_eq_getElem?_getD]
  by_cases h : j = k
  · subst h
    rw [if_pos rfl, List.getElem?_set_self']
    by_cases h2 : j < r.length
    · rw [if_pos h2, List.getElem?_eq_getElem h2]
      rfl
    · rw [if_neg h2, List.getElem?_eq_none (by omega)]
      rfl
  · rw [if_neg h, List.getElem?_set_ne h]
theorem fold_other {g : Nat × List Int → Int} {k : Nat} : ∀ {L : List (Nat × List Int)} {r : List Int}, (∀ x ∈ L, x.1 ≠ k) → (L.foldl (fun own x => own.set x.1 (g x)) r).getD k 0 = r.getD k 0
  | [], r, _ => rfl
  | x :: L, r, h => by
    rw [List.foldl_cons, fold_other (L := L) fun y hy => h y (by simp [hy]), set_getD, if_neg (h x (by simp))]
theorem fold_at {g : Nat × List Int → Int} : ∀ {L : List (Nat × List Int)} {r : List Int}, (L.map (·.1)).Nodup → (∀ x ∈ L, x.1 < r.length) → ∀ x ∈ L, (L.foldl (fun own x => own.set x.1 (g x)) r).getD x.1 0 = g x
  | [], r, _, _, x, hx => by simp at hx
  | y :: L, r, hn, hl, x, hx => by
    rw [List.map_cons, List.nodup_cons] at hn
    rw [List.foldl_cons]
    rcases List.mem_cons.mp hx with rfl | hx
    · rw [fold_other fun z hz q => hn.1 (List.mem_map.mpr ⟨z, hz, q⟩), set_getD, if_pos rfl, if_pos (hl x (by simp))]
    · exact fold_at (L := L) hn.2 (fun z hz => by rw [List.length_set]; exact hl z (by simp [hz])) x hx
theorem unit_getD {m j k : Nat} (h : k < m) : (unitRow m j).getD k 0 = if k = j then 1 else 0 := by
  unfold unitRow
  rw [List.getD_eq_getElem?_getD, List.getElem?_map, List.getElem?_range h]
  rfl
theorem len_unit {m j : Nat} : (unitRow m j).length = m := by simp [unitRow]
theorem free_iff {L : List (Nat × List Int)} {f : Nat} : isFree L f = true ↔ ∀ x ∈ L, x.1 ≠ f := by
  unfold isFree
  rw [Bool.not_eq_true']
  constructor
  · intro h x hx q
    rw [List.contains_eq_any_beq, List.any_eq_false] at h
    exact h _ (List.mem_map.mpr ⟨x, hx, rfl⟩) (by rw [q]; simp)
  · intro h
    rw [List.contains_eq_any_beq, List.any_eq_false]
    intro y hy
    obtain ⟨x, hx, rfl⟩ := List.mem_map.mp hy
    have := h x hx
    simp only [beq_iff_eq]
    omega
section
variable {p m f : Nat} {C : List (List Int)} {L : List (Nat × List Int)}
theorem free_at (g : GI p m C L) : ∀ x ∈ L, (freeRow p m L f).getD x.1 0 = ((p : Int) - x.2.getD f 0) % (p : Int) := fun x hx =>
  fold_at (g := fun x => ((p : Int) - x.2.getD f 0) % (p : Int)) g.nd (fun y hy => by rw [len_unit]; exact g.ok.lt y hy) x hx
theorem free_other {k : Nat} (hk : k < m) (h : ∀ x ∈ L, x.1 ≠ k) : (freeRow p m L f).getD k 0 = if k = f then 1 else 0 := by
  rw [← unit_getD hk]
  exact fold_other h
theorem free_dig (hp : p = 2 ∨ p = 3) (g : GI p m C L) : Dig p (freeRow p m L f) := fun y hy => by
  obtain ⟨k, hk, rfl⟩ := List.getElem_of_mem hy
  have hk' : k < m := by rwa [len_freeRow] at hk
  have e : (freeRow p m L f)[k] = (freeRow p m L f).getD k 0 := by rw [List.getD_eq_getElem?_getD, List.getElem?_eq_getElem hk]; rfl
  rw [e]
  by_cases h : ∃ x ∈ L, x.1 = k
  · obtain ⟨x, hx, rfl⟩ := h
    rw [free_at g x hx]
    exact dig_mod (by omega) _
  · rw [free_other hk' fun x hx q => h ⟨x, hx, q⟩]
    split <;> omega
/-- it annihilates the leads -/
theorem free_lead (g : GI p m C L) (hf : f < m) (hfr : ∀ x ∈ L, x.1 ≠ f) : ∀ x ∈ L, Cg p (sm m fun i => (freeRow p m L f).getD i 0 * x.2.getD i 0) 0 := fun x hx => by
  refine (sm_two (a := x.1) (b := f) (hfr x hx) (g.ok.lt x hx) hf fun i hi h1 h2 => ?_).trans ?_
  · by_cases h : ∃ y ∈ L, y.1 = i
    · obtain ⟨y, hy, rfl⟩ := h
      exact (g.zero y hy x hx h1).mul0'
    · rw [free_other hi fun y hy q => h ⟨y, hy, q⟩, if_neg h2]
      exact Cg.of (Int.zero_mul _)
  · rw [free_at g x hx, free_other hf hfr, if_pos rfl, Int.one_mul]
    have h1 := ((Cg.mod (p := p) (x := (p : Int) - x.2.getD f 0)).mul (g.one x hx)).add (Cg.refl (x := x.2.getD f 0))
    refine h1.trans ⟨1, by omega⟩
theorem free_row (g : GI p m C L) (hf : f < m) (hfr : ∀ x ∈ L, x.1 ≠ f) : ∀ c ∈ C, Cg p (sm m fun i => (freeRow p m L f).getD i 0 * c.getD i 0) 0 := fun c hc =>
  (g.ps c hc).dot fun d hd => by
    obtain ⟨x, hx, rfl⟩ := List.mem_map.mp hd
    exact free_lead g hf hfr x hx
/-- what all of them annihilate is in the span -/
theorem free_span (g : GI p m C L) {v : List Int} (hv : v.length = m) (h : ∀ f, f < m → (∀ x ∈ L, x.1 ≠ f) → Cg p (sm m fun i => (freeRow p m L f).getD i 0 * v.getD i 0) 0) : Spn p m C (fun i => v.getD i 0) := by
  obtain ⟨s, hs, es⟩ := red_spec g.ok hv
  have hz := g.red0 hv
  have hall : ∀ i, i < m → Cg p ((red p L v).getD i 0) 0 := fun f hf => by
    by_cases hpl : ∃ x ∈ L, x.1 = f
    · obtain ⟨x, hx, rfl⟩ := hpl
      exact hz x hx
    · have hfr : ∀ x ∈ L, x.1 ≠ f := fun x hx q => hpl ⟨x, hx, q⟩
      have e1 : Cg p (sm m fun i => (freeRow p m L f).getD i 0 * (red p L v).getD i 0) 0 := by
        have e2 : Cg p (sm m fun i => (freeRow p m L f).getD i 0 * (red p L v).getD i 0) (sm m (fun i => (freeRow p m L f).getD i 0 * v.getD i 0) - sm m (fun i => (freeRow p m L f).getD i 0 * s i)) := by
          refine (sm_cg fun i hi => (Cg.refl (x := (freeRow p m L f).getD i 0)).mul (es i hi)).trans (Cg.of ?_)
          have : sm m (fun i => (freeRow p m L f).getD i 0 * (v.getD i 0 - s i)) = sm m (fun i => (freeRow p m L f).getD i 0 * v.getD i 0 + -1 * ((freeRow p m L f).getD i 0 * s i)) := sm_congr fun i _ => by
            rw [Int.mul_sub]
            omega
          rw [this, sm_add, sm_mul]
          omega
        have e3 : Cg p (sm m (fun i => (freeRow p m L f).getD i 0 * s i)) 0 := hs.dot fun d hd => by
          obtain ⟨x, hx, rfl⟩ := List.mem_map.mp hd
          exact free_lead g hf hfr x hx
        exact e2.trans ((h f hf hfr).sub e3)
      have e4 : Cg p (sm m fun i => (freeRow p m L f).getD i 0 * (red p L v).getD i 0) ((freeRow p m L f).getD f 0 * (red p L v).getD f 0) := sm_one hf fun i hi hne => by
        by_cases h2 : ∃ x ∈ L, x.1 = i
        · obtain ⟨x, hx, rfl⟩ := h2
          exact (hz x hx).mul0'
        · rw [free_other hi fun y hy q => h2 ⟨y, hy, q⟩, if_neg hne]
          exact Cg.of (Int.zero_mul _)
      rw [free_other hf hfr, if_pos rfl, Int.one_mul] at e4
      exact e4.symm.trans e1
  have : Spn p m (L.map (·.2)) (fun i => v.getD i 0) := hs.congr fun i hi => by
    have a := ((es i hi).symm.trans (hall i hi)).add (Cg.refl (x := s i))
    exact ((Cg.of (show s i = 0 + s i by omega)).trans a.symm).trans (Cg.of (by omega))
  exact this.mono fun c hc => by
    obtain ⟨x, hx, rfl⟩ := List.mem_map.mp hc
    exact g.sp x hx
end
section
variable {p m : Nat} {rs : List (List Int)}
theorem unm_ok (hp : p = 2 ∨ p = 3) (h : ∀ r ∈ rs, r.length = m ∧ Dig p r) {u : List Int} (hu : u ∈ unmarked p m rs) : u.length = m ∧ Dig p u ∧ (∃ i, i < m ∧ u.getD i 0 = 1) ∧ ∀ c ∈ rs, Cg p (sm m fun i => u.getD i 0 * c.getD i 0) 0 := by
  have g := leadsB_GI hp h
  obtain ⟨f, hf, rfl⟩ := List.mem_map.mp hu
  obtain ⟨h1, h2⟩ := List.mem_filter.mp hf
  have hfm : f < m := by simpa using h1
  have hfr := free_iff.mp h2
  exact ⟨len_freeRow, free_dig hp g, ⟨f, hfm, by rw [free_other hfm hfr, if_pos rfl]⟩, free_row g hfm hfr⟩
theorem unm_sp (hp : p = 2 ∨ p = 3) (h : ∀ r ∈ rs, r.length = m ∧ Dig p r) {v : List Int} (hv : v.length = m) (hu : ∀ u ∈ unmarked p m rs, Cg p (sm m fun i => u.getD i 0 * v.getD i 0) 0) : Spn p m rs (fun i => v.getD i 0) :=
  free_span (leadsB_GI hp h) hv fun f hf hfr => hu _ (List.mem_map.mpr ⟨f, List.mem_filter.mpr ⟨by simpa using hf, free_iff.mpr hfr⟩, rfl⟩)
end
end Dry

set_option Elab.async false
set_option linter.all false
set_option maxRecDepth 100000
set_option maxHeartbeats 4000000
namespace Dry
/-! ### what can be read: sums of the columns -/
def linF (p m : Nat) (col : Nat → List Int) (ρ : Nat → Int) (i : Nat) : List Int := (List.range m).map fun k => (sm i fun c => ρ c * (col c).getD k 0) % (p : Int)
section
variable {p m n i k : Nat} {col : Nat → List Int} {ρ ρ' : Nat → Int}
theorem lin_len : (linF p m col ρ i).length = m := by simp [linF]
theorem lin_at (hk : k < m) : (linF p m col ρ i).getD k 0 = (sm i fun c => ρ c * (col c).getD k 0) % (p : Int) := by
  unfold linF
  rw [List.getD_eq_getElem?_getD, List.getElem?_map, List.getElem?_range hk]
  rfl
theorem dig_getD {p : Nat} {r : List Int} (h : Dig p r) {k : Nat} (hk : k < r.length) : 0 ≤ r.getD k 0 ∧ r.getD k 0 < (p : Int) := h _ (List.mem_of_getElem? (getD_some hk 0))
theorem lin_dig (hp : 0 < p) : Dig p (linF p m col ρ i) := fun y hy => by
  obtain ⟨k, _, rfl⟩ := List.mem_map.mp hy
  exact dig_mod hp _
theorem dig_ext {p m : Nat} {a b : List Int} (h1 : a.length = m) (h2 : b.length = m) (ha : Dig p a) (hb : Dig p b) (h : ∀ i, i < m → Cg p (a.getD i 0) (b.getD i 0)) : a = b :=
  row_ext h1 h2 fun i hi => (h i hi).dig (dig_getD ha (by omega)) (dig_getD hb (by omega))
theorem lin_zero : linF p m col ρ 0 = List.replicate m 0 := by
  unfold linF
  rw [List.eq_replicate_iff]
  refine ⟨by simp, fun b hb => ?_⟩
  obtain ⟨k, _, rfl⟩ := List.mem_map.mp hb
  show (0 : Int) % (p : Int) = 0
  exact Int.zero_emod _
theorem lin_succ (hp : 0 < p) (hc : (col i).length = m) : rowPlus p (linF p m col ρ i) (rowTimes p (ρ i) (col i)) = linF p m col ρ (i + 1) := by
  have l1 : (rowPlus p (linF p m col ρ i) (rowTimes p (ρ i) (col i))).length = m := by rw [len_plus (by rw [lin_len, len_times, hc]), lin_len]
  refine dig_ext l1 lin_len (dig_plus hp _ _) (lin_dig hp) fun k hk => ?_
  refine (plus_at (by rw [lin_len]; exact hk) (by rw [len_times, hc]; exact hk)).trans ?_
  rw [lin_at hk, lin_at hk]
  have e : (sm (i + 1) fun c => ρ c * (col c).getD k 0) = (sm i fun c => ρ c * (col c).getD k 0) + ρ i * (col i).getD k 0 := rfl
  rw [e]
  exact (Cg.mod.add (times_at (by rw [hc]; exact hk))).trans Cg.mod.symm
theorem lin_congr (h : ∀ c, c < i → ρ c = ρ' c) : linF p m col ρ i = linF p m col ρ' i := by
  unfold linF
  apply List.map_congr_left
  intro k _
  rw [sm_congr fun c hc => by rw [h c hc]]
theorem lin_dot {u : Nat → Int} : Cg p (sm m fun k => u k * (linF p m col ρ i).getD k 0) (sm i fun c => ρ c * sm m fun k => u k * (col c).getD k 0) := by
  have e1 : Cg p (sm m fun k => u k * (linF p m col ρ i).getD k 0) (sm m fun k => sm i fun c => ρ c * (u k * (col c).getD k 0)) := sm_cg fun k hk => by
    rw [lin_at hk]
    refine (Cg.refl.mul Cg.mod).trans (Cg.of ?_)
    rw [← sm_mul]
    exact sm_congr fun c _ => Int.mul_left_comm _ _ _
  refine e1.trans (Cg.of ?_)
  rw [sm_swap]
  exact sm_congr fun c _ => sm_mul
end
theorem rch_iff {p m n : Nat} (hp : 0 < p) {cols : List (List Int)} (hn : cols.length = n) (hc : ∀ c ∈ cols, c.length = m) {pay : Nat → Int → Bool} : ∀ {i : Nat} {r : List Int}, i ≤ n → (Rch p m cols pay i r ↔ ∃ ρ : Nat → Int, (∀ c, c < i → 0 ≤ ρ c ∧ ρ c < (p : Int) ∧ pay c (ρ c) = true) ∧ r = linF p m (fun c => cols.getD c []) ρ i)
  | 0, r, _ => ⟨fun h => ⟨fun _ => 0, fun c hc => absurd hc (Nat.not_lt_zero c), by rw [lin_zero]; exact h⟩, fun ⟨ρ, _, e⟩ => by rw [lin_zero] at e; exact e⟩
  | i + 1, r, hi => by
    have hl : (cols.getD i []).length = m := hc _ (List.mem_of_getElem? (getD_some (by omega) []))
    constructor
    · rintro ⟨q, rest, hq, h1, h2, e⟩
      obtain ⟨ρ, a1, a2⟩ := (rch_iff hp hn hc (i := i) (by omega)).mp hq
      refine ⟨fun c => if c = i then (rest : Int) else ρ c, fun c hc' => ?_, ?_⟩
      · dsimp only
        by_cases hci : c = i
        · rw [if_pos hci, hci]
          exact ⟨by omega, by omega, h2⟩
        · rw [if_neg hci]
          exact a1 c (by omega)
      · rw [e, a2, ← lin_succ hp hl]
        have e1 : linF p m (fun c => cols.getD c []) ρ i = linF p m (fun c => cols.getD c []) (fun c => if c = i then (rest : Int) else ρ c) i := lin_congr fun c hc' => by rw [if_neg (by omega)]
        rw [e1]
        simp
    · rintro ⟨ρ, a1, e⟩
      obtain ⟨b1, b2, b3⟩ := a1 i (by omega)
      refine ⟨linF p m (fun c => cols.getD c []) ρ i, (ρ i).toNat, (rch_iff hp hn hc (i := i) (by omega)).mpr ⟨ρ, fun c hc' => a1 c (by omega), rfl⟩, by omega, ?_, ?_⟩
      · rw [show (((ρ i).toNat : Nat) : Int) = ρ i by omega]
        exact b3
      · rw [show (((ρ i).toNat : Nat) : Int) = ρ i by omega, e, ← lin_succ hp hl]
theorem read_lin {p n : Nat} (hp : 0 < p) {k : Ky} (hk : KOk p n k) {rests : List Int} (hr : rests.length = n) : readK p k rests = linF p k.m (fun c => k.cols.getD c []) (fun c => rests.getD c 0) n := by
  have key : ∀ i, i ≤ n → readZ p k.m ((rests.zip k.cols).take i) = linF p k.m (fun c => k.cols.getD c []) (fun c => rests.getD c 0) i := fun i => by
    induction i with
    | zero => intro _; rw [lin_zero]; rfl
    | succ i ih =>
      intro hi
      have hkn := hk.nn
      have e : (rests.zip k.cols)[i]? = some (rests.getD i 0, k.cols.getD i []) := by
        rw [List.getElem?_zip_eq_some]
        exact ⟨getD_some (by omega) 0, getD_some (by omega) []⟩
      rw [readZ_succ e, ih (by omega)]
      exact lin_succ (col := fun c => k.cols.getD c []) (ρ := fun c => rests.getD c 0) hp (hk.col _ (List.mem_of_getElem? (getD_some (rs := k.cols) (i := i) (by omega) []))).1
  have h := key n (Nat.le_refl n)
  rw [List.take_of_length_le (by rw [List.length_zip, hr, hk.nn]; omega)] at h
  exact h
/-- a member of a span, by its coefficients -/
theorem sp_coef {p m n : Nat} {cols : List (List Int)} {lot : List Int} (hn : cols.length = n) {v : Nat → Int} (h : Spn p m (beside cols lot) v) : ∃ a : Nat → Int, (∀ c : Nat, lot.contains (c : Int) = true → a c = 0) ∧ ∀ k, k < m → Cg p (v k) (sm n fun c => a c * (cols.getD c []).getD k 0) := by
  induction h with
  | zero => exact ⟨fun _ => 0, fun _ _ => rfl, fun k _ => Cg.of (by rw [show (fun c => (0 : Int) * (cols.getD c []).getD k 0) = fun _ => 0 from funext fun c => Int.zero_mul _, sm_zero])⟩
  | @add c v x hc _ ih =>
    obtain ⟨a, a1, a2⟩ := ih
    obtain ⟨j, h1, h2⟩ := beside_iff.mp hc
    have hj : j < n := by
      have := (List.getElem?_eq_some_iff.mp h1).1
      omega
    refine ⟨fun c => if c = j then a c + x else a c, fun c hc' => ?_, fun k hk => ?_⟩
    · show (if c = j then a c + x else a c) = 0
      rw [if_neg (fun q => by rw [q, h2] at hc'; cases hc')]
      exact a1 c hc'
    · have e : (sm n fun c' => (if c' = j then a c' + x else a c') * (cols.getD c' []).getD k 0) = (sm n fun c' => a c' * (cols.getD c' []).getD k 0) + sm n fun c' => if c' = j then x * c.getD k 0 else 0 := by
        rw [← sm_add]
        refine sm_congr fun c' _ => ?_
        by_cases q : c' = j
        · subst q
          rw [if_pos rfl, if_pos rfl, Int.add_mul]
          congr 2
          rw [List.getD_eq_getElem?_getD (l := cols), h1]
          rfl
        · rw [if_neg q, if_neg q, Int.add_zero]
      have e2 : Cg p (sm n fun c' => if c' = j then x * c.getD k 0 else 0) (x * c.getD k 0) := by
        have := sm_one (p := p) (f := fun c' => if c' = j then x * c.getD k 0 else 0) hj fun i _ hne => by
          show Cg p (if i = j then _ else 0) 0
          rw [if_neg hne]
          exact Cg.refl
        simpa using this
      rw [e]
      exact (a2 k hk).add e2.symm
  | congr _ e ih =>
    obtain ⟨a, a1, a2⟩ := ih
    exact ⟨a, a1, fun k hk => (e k hk).symm.trans (a2 k hk)⟩
/-- the facts of a scene's joint key -/
structure Sc (p n : Nat) (M : Ky) (gs : List Int) (ps : List (Option Int)) (lot : List Int) : Prop where
  hp : p = 2 ∨ p = 3
  k : KOk p n M
  g : gs.length = n
  q : ps.length = n
  lot : ∀ c : Nat, c < n → (lot.contains (c : Int) = true ↔ ps.getD c none = none)
def restsG (p : Nat) (gs : List Int) : List Int := gs.map fun g => g % (p : Int)
section
variable {p n : Nat} {M : Ky} {gs : List Int} {ps : List (Option Int)} {lot : List Int}
theorem Sc.rests (S : Sc p n M gs ps lot) {c : Nat} (h : c < n) : (restsG p gs).getD c 0 = gs.getD c 0 % (p : Int) := map_getD' (by rw [S.g]; exact h)
theorem Sc.base (S : Sc p n M gs ps lot) : readK p M (restsG p gs) = linF p M.m (fun c => M.cols.getD c []) (fun c => (restsG p gs).getD c 0) n := read_lin (by have := S.hp; omega) S.k (by simp [restsG, S.g])
theorem Sc.dot (S : Sc p n M gs ps lot) {u : Nat → Int} (hu : ∀ c ∈ beside M.cols lot, Cg p (sm M.m fun i => u i * c.getD i 0) 0) {r : List Int} (hr : Rch p M.m M.cols (canPay ps gs p) n r) : Cg p (sm M.m fun k => u k * r.getD k 0) (sm M.m fun k => u k * (readK p M (restsG p gs)).getD k 0) := by
  have p0 : 0 < p := by have := S.hp; omega
  obtain ⟨ρ, h1, e⟩ := (rch_iff p0 S.k.nn (fun c hc => (S.k.col c hc).1) (Nat.le_refl n)).mp hr
  rw [e, S.base]
  refine lin_dot.trans (Cg.trans ?_ lin_dot.symm)
  refine sm_cg fun c hc => ?_
  cases hl : lot.contains (c : Int) with
  | true =>
    have hn := (S.lot c hc).mp hl
    have h2 := (h1 c hc).2.2
    unfold canPay at h2
    rw [hn] at h2
    have h3 : gs.getD c 0 % (p : Int) = ρ c := by simpa using h2
    rw [S.rests hc, h3]
    exact Cg.refl
  | false =>
    have hm : M.cols.getD c [] ∈ beside M.cols lot := beside_iff.mpr ⟨c, getD_some (by rw [S.k.nn]; exact hc) [], hl⟩
    exact (hu _ hm).mul0'.trans (hu _ hm).mul0'.symm
theorem Sc.of_sp (S : Sc p n M gs ps lot) {r : List Int} (hl : r.length = M.m) (hd : Dig p r) (h : Spn p M.m (beside M.cols lot) (fun k => r.getD k 0 - (readK p M (restsG p gs)).getD k 0)) : Rch p M.m M.cols (canPay ps gs p) n r := by
  have p0 : 0 < p := by have := S.hp; omega
  obtain ⟨a, a1, a2⟩ := sp_coef S.k.nn h
  refine (rch_iff p0 S.k.nn (fun c hc => (S.k.col c hc).1) (Nat.le_refl n)).mpr ⟨fun c => ((restsG p gs).getD c 0 + a c) % (p : Int), fun c hc => ⟨(dig_mod p0 _).1, (dig_mod p0 _).2, ?_⟩, ?_⟩
  · cases hlot : lot.contains (c : Int) with
    | true =>
      unfold canPay
      show (decide (gs.getD c 0 % (p : Int) = ((restsG p gs).getD c 0 + a c) % (p : Int)) || _) = true
      rw [a1 c hlot, Int.add_zero, S.rests hc, Int.emod_emod_of_dvd _ (Int.dvd_refl _)]
      simp
    | false =>
      unfold canPay
      have : ps.getD c none ≠ none := fun q => by
        rw [(S.lot c hc).mpr q] at hlot
        cases hlot
      have : (ps.getD c none).isSome = true := Option.isSome_iff_ne_none.mpr this
      rw [this, Bool.or_true]
  · refine dig_ext hl lin_len hd (lin_dig p0) fun k hk => ?_
    rw [lin_at hk]
    have e1 : Cg p (sm n fun c => ((restsG p gs).getD c 0 + a c) % (p : Int) * (M.cols.getD c []).getD k 0) ((sm n fun c => (restsG p gs).getD c 0 * (M.cols.getD c []).getD k 0) + sm n fun c => a c * (M.cols.getD c []).getD k 0) := by
      rw [← sm_add]
      refine sm_cg fun c _ => ?_
      refine (Cg.mod.mul Cg.refl).trans (Cg.of (by rw [Int.add_mul]))
    have e2 : Cg p ((readK p M (restsG p gs)).getD k 0) (sm n fun c => (restsG p gs).getD c 0 * (M.cols.getD c []).getD k 0) := by
      rw [S.base, lin_at hk]
      exact Cg.mod
    refine Cg.symm (Cg.mod.trans (e1.trans ?_))
    refine (e2.symm.add (a2 k hk).symm).trans (Cg.of (by omega))
/-- WHAT CAN BE READ -/
theorem Sc.rch (S : Sc p n M gs ps lot) {r : List Int} : Rch p M.m M.cols (canPay ps gs p) n r ↔ r.length = M.m ∧ Dig p r ∧ ∀ u ∈ unmarked p M.m (beside M.cols lot), Cg p (sm M.m fun k => u.getD k 0 * r.getD k 0) (sm M.m fun k => u.getD k 0 * (readK p M (restsG p gs)).getD k 0) := by
  have p0 : 0 < p := by have := S.hp; omega
  have hb : ∀ c ∈ beside M.cols lot, c.length = M.m ∧ Dig p c := fun c hc => S.k.col c (beside_mem hc)
  constructor
  · intro h
    obtain ⟨ρ, _, e⟩ := (rch_iff p0 S.k.nn (fun c hc => (S.k.col c hc).1) (Nat.le_refl n)).mp h
    exact ⟨by rw [e, lin_len], by rw [e]; exact lin_dig p0, fun u hu => S.dot (unm_ok S.hp hb hu).2.2.2 h⟩
  · rintro ⟨h1, h2, h3⟩
    have hbl : (readK p M (restsG p gs)).length = M.m := by rw [S.base, lin_len]
    have hv : (rowLess p r (readK p M (restsG p gs))).length = M.m := by rw [len_less (by rw [h1, hbl]), h1]
    have hat : ∀ k, k < M.m → Cg p ((rowLess p r (readK p M (restsG p gs))).getD k 0) (r.getD k 0 - (readK p M (restsG p gs)).getD k 0) := fun k hk => less_at' (by omega) (by omega)
    refine S.of_sp h1 h2 ((unm_sp S.hp hb hv fun u hu => ?_).congr hat)
    refine (sm_cg fun k hk => (Cg.refl (x := u.getD k 0)).mul (hat k hk)).trans ?_
    have e : (sm M.m fun k => u.getD k 0 * (r.getD k 0 - (readK p M (restsG p gs)).getD k 0)) = (sm M.m fun k => u.getD k 0 * r.getD k 0) - sm M.m fun k => u.getD k 0 * (readK p M (restsG p gs)).getD k 0 := by
      have : (sm M.m fun k => u.getD k 0 * (r.getD k 0 - (readK p M (restsG p gs)).getD k 0)) = sm M.m fun k => u.getD k 0 * r.getD k 0 + -1 * (u.getD k 0 * (readK p M (restsG p gs)).getD k 0) := sm_congr fun k _ => by
        rw [Int.mul_sub]
        omega
      rw [this, sm_add, sm_mul]
      omega
    rw [e]
    have := (h3 u hu).sub (Cg.refl (x := sm M.m fun k => u.getD k 0 * (readK p M (restsG p gs)).getD k 0))
    rwa [Int.sub_self] at this
end
end Dry

set_option Elab.async false
set_option linter.all false
set_option maxRecDepth 100000
set_option maxHeartbeats 4000000
namespace Dry
/-! ### parts -/
def partR : List Ky → List Int → List (List Int)
  | [], _ => []
  | k :: ks, r => r.take k.m :: partR ks (r.drop k.m)
theorem place_cons {k : Ky} {ks : List Ky} {i : Nat} : placeAt (k :: ks) (i + 1) = k.m + placeAt ks i := by simp [placeAt]
theorem partK_eq : ∀ {ks : List Ky} {r : List Int}, partK ks r = partR ks r
  | [], r => rfl
  | k :: ks, r => by
    unfold partK partR
    have e1 : (r.take (placeAt (k :: ks) (0 + 1))).drop (placeAt (k :: ks) 0) = r.take k.m := by
      rw [place_cons]
      simp [placeAt]
    have e2 : (List.range ks.length).map ((fun i => (r.take (placeAt (k :: ks) (i + 1))).drop (placeAt (k :: ks) i)) ∘ Nat.succ) = partR ks (r.drop k.m) := by
      rw [← partK_eq (ks := ks)]
      unfold partK
      apply List.map_congr_left
      intro i _
      show (r.take (placeAt (k :: ks) (i + 1 + 1))).drop (placeAt (k :: ks) (i + 1)) = ((r.drop k.m).take (placeAt ks (i + 1))).drop (placeAt ks i)
      rw [place_cons, place_cons, List.drop_take, List.drop_take, List.drop_drop]
      congr 1
      omega
    rw [List.length_cons, List.range_succ_eq_map, List.map_cons, List.map_map, e1, e2]
theorem partR_J {p : Nat} : ∀ {ks : List Ky} {r : List Int}, r.length = (ks.map (·.m)).sum → Dig p r → JRows p ks (partR ks r) ∧ (partR ks r).flatten = r
  | [], r, h, _ => by
    have : r = [] := List.eq_nil_of_length_eq_zero (by simpa using h)
    subst this
    exact ⟨.nil, rfl⟩
  | k :: ks, r, h, hd => by
    rw [List.map_cons, List.sum_cons] at h
    obtain ⟨a, b⟩ := partR_J (ks := ks) (r := r.drop k.m) (by simp; omega) (fun x hx => hd x (List.mem_of_mem_drop hx))
    refine ⟨.cons (by simp; omega) (fun x hx => hd x (List.mem_of_mem_take hx)) a, ?_⟩
    show (r.take k.m) ++ (partR ks (r.drop k.m)).flatten = r
    rw [b, List.take_append_drop]
theorem jrows_part {p : Nat} {ks : List Ky} {rs : List (List Int)} (h : JRows p ks rs) : partR ks rs.flatten = rs := by
  induction h with
  | nil => rfl
  | cons h1 h2 h ih =>
    rw [List.flatten_cons]
    unfold partR
    rw [← h1, List.take_left, List.drop_left, ih]
/-! ### sums by parts -/
def dsum (us rs : List (List Int)) : Int := ((us.zip rs).map fun x => dot x.1 x.2).sum
theorem dot_flat {p : Nat} {ks : List Ky} {us : List (List Int)} (hu : JRows p ks us) : ∀ {rs : List (List Int)}, JRows p ks rs → dot us.flatten rs.flatten = dsum us rs := by
  induction hu with
  | nil => intro rs h; cases h; rfl
  | cons h1 h2 h ih =>
    intro rs hr
    cases hr with
    | cons g1 g2 g =>
      rw [List.flatten_cons, List.flatten_cons, dot_append (by rw [h1, g1]), ih g]
      rfl
theorem put_eq {ns : List (List Int)} {j : Nat} {r : List Int} (hj : j < ns.length) : putR ns j r = ns.set j r := by
  unfold putR
  rw [List.set_eq_take_append_cons_drop, if_pos hj]
  simp
theorem dsum_put : ∀ {us ns : List (List Int)} {j : Nat} {r : List Int}, us.length = ns.length → j < ns.length → dsum us (ns.set j r) = dsum us ns - dot (us.getD j []) (ns.getD j []) + dot (us.getD j []) r
  | [], [], j, r, _, h => by simp at h
  | u :: us, n :: ns, 0, r, _, _ => by
    show dot u r + dsum us ns = dot u n + dsum us ns - dot u n + dot u r
    omega
  | u :: us, n :: ns, j + 1, r, h, hj => by
    have ih := dsum_put (us := us) (ns := ns) (j := j) (r := r) (by simpa using h) (by simpa using hj)
    show dot u n + dsum us (ns.set j r) = dot u n + dsum us ns - dot (us.getD j []) (ns.getD j []) + dot (us.getD j []) r
    rw [ih]
    omega
  | [], _ :: _, _, _, h, _ => by simp at h
  | _ :: _, [], _, _, h, _ => by simp at h
theorem jrows_set {p : Nat} {ks : List Ky} {ns : List (List Int)} (h : JRows p ks ns) : ∀ {j : Nat} {r : List Int}, j < ks.length → r.length = (ks.getD j k0).m → Dig p r → JRows p ks (ns.set j r) := by
  induction h with
  | nil => intro j r hj; simp at hj
  | cons h1 h2 h ih =>
    intro j r hj hl hd
    cases j with
    | zero => exact .cons hl hd h
    | succ j => exact .cons h1 h2 (ih (by simpa using hj) hl hd)
theorem jrows_getD {p : Nat} {ks : List Ky} {ns : List (List Int)} (h : JRows p ks ns) : ∀ {j : Nat}, j < ks.length → (ns.getD j []).length = (ks.getD j k0).m ∧ Dig p (ns.getD j []) := by
  induction h with
  | nil => intro j hj; simp at hj
  | cons h1 h2 h ih =>
    intro j hj
    cases j with
    | zero => exact ⟨h1, h2⟩
    | succ j => exact ih (by simpa using hj)
/-! ### the present reading -/
theorem lin_append {p a b n : Nat} {c1 c2 : Nat → List Int} {ρ : Nat → Int} (h : ∀ c, c < n → (c1 c).length = a) : linF p (a + b) (fun c => c1 c ++ c2 c) ρ n = linF p a c1 ρ n ++ linF p b c2 ρ n := by
  unfold linF
  rw [List.range_add, List.map_append, List.map_map]
  congr 1
  · apply List.map_congr_left
    intro k hk
    have hk : k < a := by simpa using hk
    rw [sm_congr fun c hc => by
      have := h c hc
      rw [List.getD_eq_getElem?_getD, List.getElem?_append_left (by omega), ← List.getD_eq_getElem?_getD]]
  · apply List.map_congr_left
    intro k hk
    show (sm n fun c => ρ c * (c1 c ++ c2 c).getD (a + k) 0) % (p : Int) = _
    rw [sm_congr fun c hc => by
      have := h c hc
      rw [List.getD_eq_getElem?_getD, List.getElem?_append_right (by omega), show a + k - (c1 c).length = k by omega, ← List.getD_eq_getElem?_getD]]
theorem now_lin {p n : Nat} {ρ : Nat → Int} : ∀ {ks : List Ky}, (∀ k ∈ ks, KOk p n k) → (ks.map fun k => linF p k.m (fun c => k.cols.getD c []) ρ n).flatten = linF p (ks.map (·.m)).sum (colAt ks) ρ n
  | [], _ => rfl
  | k :: ks, h => by
    have hk := h k (by simp)
    have e : colAt (k :: ks) = fun c => k.cols.getD c [] ++ colAt ks c := rfl
    rw [List.map_cons, List.flatten_cons, now_lin (ks := ks) fun x hx => h x (by simp [hx]), e, List.map_cons, List.sum_cons, lin_append fun c hc => (hk.col _ (List.mem_of_getElem? (getD_some (by rw [hk.nn]; exact hc) []))).1]
theorem now_flat {p n : Nat} {ks : List Ky} (h : KsOk p n ks) {rests : List Int} (hr : rests.length = n) : (ks.map fun k => readK p k rests).flatten = readK p (inOne ks) rests := by
  have p0 : 0 < p := by have := h.hp; omega
  rw [read_lin p0 (inOne_all h) hr, inOne_m h.ne]
  have e : (ks.map fun k => readK p k rests) = ks.map fun k => linF p k.m (fun c => k.cols.getD c []) (fun c => rests.getD c 0) n := List.map_congr_left fun k hk => read_lin p0 (h.all k hk).1 hr
  rw [e, now_lin fun k hk => (h.all k hk).1]
  unfold linF
  apply List.map_congr_left
  intro k _
  have q : ∀ c, c < n → colAt ks c = (inOne ks).cols.getD c [] := fun c hc => by
    rw [inOne_cols h, List.getD_eq_getElem?_getD, List.getElem?_map, List.getElem?_range hc]
    rfl
  exact congrArg (· % (p : Int)) (sm_congr fun c hc => by rw [q c hc])
theorem now_J {p n : Nat} {rests : List Int} (hp : 0 < p) (hr : rests.length = n) : ∀ {ks : List Ky}, (∀ k ∈ ks, KOk p n k) → JRows p ks (ks.map fun k => readK p k rests)
  | [], _ => .nil
  | k :: ks, h => by
    have e := read_lin hp (h k (by simp)) hr
    exact .cons (by show (readK p k rests).length = k.m; rw [e, lin_len]) (by show Dig p (readK p k rests); rw [e]; exact lin_dig hp) (now_J hp hr fun x hx => h x (by simp [hx]))
/-! ### a row with one more at a place -/
def bump (p : Nat) (r : List Int) (f : Nat) : List Int := r.set f ((r.getD f 0 + 1) % (p : Int))
section
variable {p m f : Nat} {r : List Int}
theorem bump_len : (bump p r f).length = r.length := by simp [bump]
theorem bump_dig (hp : 0 < p) (h : Dig p r) : Dig p (bump p r f) := dig_set h (dig_mod hp _)
theorem bump_dot {u : Nat → Int} (hl : r.length = m) (hf : f < m) : Cg p (sm m fun k => u k * (bump p r f).getD k 0) ((sm m fun k => u k * r.getD k 0) + u f) := by
  have e : Cg p (sm m fun k => u k * (bump p r f).getD k 0) (sm m fun k => u k * r.getD k 0 + if k = f then u f else 0) := sm_cg fun k hk => by
    unfold bump
    rw [set_getD]
    by_cases h : f = k
    · subst h
      rw [if_pos rfl, if_pos (by omega), if_pos rfl]
      refine (Cg.refl.mul Cg.mod).trans (Cg.of ?_)
      rw [Int.mul_add, Int.mul_one]
    · rw [if_neg h, if_neg (fun q => h q.symm), Int.add_zero]
      exact Cg.refl
  refine e.trans ?_
  rw [sm_add]
  refine Cg.refl.add ?_
  have := sm_one (p := p) (f := fun k => if k = f then u f else 0) hf fun i _ hne => by
    show Cg p (if i = f then _ else 0) 0
    rw [if_neg hne]
    exact Cg.refl
  simpa using this
end
end Dry

set_option Elab.async false
set_option linter.all false
set_option maxRecDepth 100000
set_option maxHeartbeats 4000000
namespace Dry
/-! ### the laws of a scene -/
theorem cg_one {p : Nat} (hp : p = 2 ∨ p = 3) {x y : Int} (h : Cg p (x + y) x) (h0 : 0 ≤ y) (h1 : y < (p : Int)) : y = 0 := by
  have e : Cg p y 0 := by
    have := h.sub (Cg.refl (x := x))
    rwa [Int.sub_self, show x + y - x = y by omega] at this
  exact e.dig ⟨h0, h1⟩ ⟨by omega, by omega⟩
section
variable {p n : Nat} {ks : List Ky} {gs : List Int} {ps : List (Option Int)} {lot : List Int}
def unm (p : Nat) (ks : List Ky) (lot : List Int) : List (List Int) := unmarked p (inOne ks).m (beside (inOne ks).cols lot)
theorem bnds_eq : bnds p ks lot = (unm p ks lot).map (partK ks) := rfl
theorem unm_row (h : KsOk p n ks) {u : List Int} (hu : u ∈ unm p ks lot) : u.length = (inOne ks).m ∧ Dig p u ∧ (∃ i, i < (inOne ks).m ∧ u.getD i 0 = 1) ∧ ∀ c ∈ beside (inOne ks).cols lot, Cg p (sm (inOne ks).m fun i => u.getD i 0 * c.getD i 0) 0 :=
  unm_ok h.hp (fun c hc => (inOne_all h).col c (beside_mem hc)) hu
theorem part_J (h : KsOk p n ks) {u : List Int} (h1 : u.length = (inOne ks).m) (h2 : Dig p u) : JRows p ks (partK ks u) ∧ (partK ks u).flatten = u := by
  rw [partK_eq]
  exact partR_J (by rw [h1, inOne_m h.ne]) h2
theorem sc_ok (h : KsOk p n ks) (hg : gs.length = n) (hq : ps.length = n) (hl : ∀ c : Nat, c < n → (lot.contains (c : Int) = true ↔ ps.getD c none = none)) : Sc p n (inOne ks) gs ps lot := ⟨h.hp, inOne_all h, hg, hq, hl⟩
/-- all can be read exactly when no row is free of marks -/
theorem all_iff (h : KsOk p n ks) (S : Sc p n (inOne ks) gs ps lot) : (∀ r ∈ allRows p (inOne ks).m, Rch p (inOne ks).m (inOne ks).cols (canPay ps gs p) n r) ↔ bnds p ks lot = [] := by
  have p0 : 0 < p := by have := h.hp; omega
  rw [bnds_eq, List.map_eq_nil_iff]
  constructor
  · intro ha
    cases hU : unm p ks lot with
    | nil => rfl
    | cons u us =>
      exfalso
      have hu : u ∈ unm p ks lot := by rw [hU]; exact List.mem_cons_self ..
      obtain ⟨h1, h2, ⟨i, hi, e⟩, h3⟩ := unm_row h hu
      have hbl : (readK p (inOne ks) (restsG p gs)).length = (inOne ks).m := by rw [S.base, lin_len]
      have hbd : Dig p (readK p (inOne ks) (restsG p gs)) := by rw [S.base]; exact lin_dig p0
      have hr := (S.rch.mp (ha _ (allRows_mem.mpr ⟨by rw [bump_len (f := i), hbl], bump_dig p0 hbd⟩))).2.2 u hu
      have hz := cg_one h.hp ((bump_dot (f := i) hbl hi).symm.trans hr) (by rw [e]; omega) (by rw [e]; have := h.hp; omega)
      rw [e] at hz
      cases hz
  · intro hU r hr
    obtain ⟨h1, h2⟩ := allRows_mem.mp hr
    exact S.rch.mpr ⟨h1, h2, fun u hu => by rw [show unmarked p (inOne ks).m (beside (inOne ks).cols lot) = [] from hU] at hu; cases hu⟩
theorem any_nz {l : List Int} : (l.any fun i => i != 0) = true ↔ ∃ i, i < l.length ∧ l.getD i 0 ≠ 0 := by
  rw [List.any_eq_true]
  constructor
  · rintro ⟨x, hx, e⟩
    obtain ⟨i, hi, rfl⟩ := List.mem_iff_getElem.mp hx
    exact ⟨i, hi, by rw [List.getD_eq_getElem?_getD, List.getElem?_eq_getElem hi]; simpa using e⟩
  · rintro ⟨i, hi, e⟩
    refine ⟨l[i], List.getElem_mem hi, ?_⟩
    rw [List.getD_eq_getElem?_getD, List.getElem?_eq_getElem hi] at e
    simpa using e
theorem any_flat {rs : List (List Int)} : (rs.any fun r => r.any fun i => i != 0) = rs.flatten.any fun i => i != 0 := by
  induction rs with
  | nil => rfl
  | cons r rs ih => rw [List.any_cons, List.flatten_cons, List.any_append, ih]
theorem bindR_iff (h : KsOk p n ks) {r : List Int} (h1 : r.length = (inOne ks).m) (h2 : Dig p r) : isBind p ks lot (rowsD (partK ks r)) = true ↔ (∃ i, i < (inOne ks).m ∧ r.getD i 0 ≠ 0) ∧ ∀ c ∈ beside (inOne ks).cols lot, Cg p (sm (inOne ks).m fun i => r.getD i 0 * c.getD i 0) 0 := by
  obtain ⟨hJ, hf⟩ := part_J h h1 h2
  unfold isBind
  rw [isJoint_rows (fun k hk => (h.all k hk).1.pp) hJ, rowsD_toRows, Bool.true_and]
  unfold bindR
  rw [any_flat, hf, Bool.and_eq_true, any_nz, h1]
  refine and_congr Iff.rfl ?_
  rw [List.all_eq_true]
  constructor
  · intro ha c hc
    have := of_decide_eq_true (ha c hc)
    rw [← dot_sm h1 ((inOne_all h).col c (beside_mem hc)).1]
    exact Cg.of_emod (by show dot r c % (p : Int) = 0 % (p : Int); rw [Int.zero_emod]; exact this)
  · intro ha c hc
    have := ha c hc
    rw [← dot_sm h1 ((inOne_all h).col c (beside_mem hc)).1] at this
    have e := this.emod
    rw [Int.zero_emod] at e
    exact decide_eq_true e
/-- a told row is a binding -/
theorem told_bind (h : KsOk p n ks) {rs : List (List Int)} (hb : rs ∈ bnds p ks lot) : isBind p ks lot (rowsD rs) = true := by
  rw [bnds_eq] at hb
  obtain ⟨u, hu, rfl⟩ := List.mem_map.mp hb
  obtain ⟨h1, h2, ⟨i, hi, e⟩, h3⟩ := unm_row h hu
  exact (bindR_iff h h1 h2).mpr ⟨⟨i, hi, by rw [e]; decide⟩, h3⟩
/-- no row binds exactly when none is told -/
theorem none_iff (h : KsOk p n ks) : (∀ r ∈ allRows p (inOne ks).m, isBind p ks lot (rowsD (partK ks r)) = false) ↔ bnds p ks lot = [] := by
  have p0 : 0 < p := by have := h.hp; omega
  constructor
  · intro ha
    cases hU : bnds p ks lot with
    | nil => rfl
    | cons b bs =>
      exfalso
      have hb : b ∈ bnds p ks lot := by rw [hU]; exact List.mem_cons_self ..
      have ht := told_bind h hb
      rw [bnds_eq] at hb
      obtain ⟨u, hu, rfl⟩ := List.mem_map.mp hb
      obtain ⟨h1, h2, _⟩ := unm_row h hu
      rw [ha u (allRows_mem.mpr ⟨h1, h2⟩)] at ht
      cases ht
  · intro hU r hr
    obtain ⟨h1, h2⟩ := allRows_mem.mp hr
    rw [bnds_eq, List.map_eq_nil_iff] at hU
    cases hb : isBind p ks lot (rowsD (partK ks r)) with
    | false => rfl
    | true =>
      exfalso
      obtain ⟨⟨f, hf, hnz⟩, h3⟩ := (bindR_iff h h1 h2).mp hb
      have hzl : (List.replicate (inOne ks).m (0 : Int)).length = (inOne ks).m := by simp
      have hsp : Spn p (inOne ks).m (beside (inOne ks).cols lot) fun i => (bump p (List.replicate (inOne ks).m (0 : Int)) f).getD i 0 :=
        unm_sp h.hp (fun c hc => (inOne_all h).col c (beside_mem hc)) (by rw [bump_len, hzl]) fun u hu => by
          rw [show unmarked p (inOne ks).m (beside (inOne ks).cols lot) = [] from hU] at hu
          cases hu
      have e1 := hsp.dot (u := fun i => r.getD i 0) h3
      have e2 := bump_dot (p := p) (u := fun i => r.getD i 0) hzl hf
      have e3 : (sm (inOne ks).m fun k => r.getD k 0 * (List.replicate (inOne ks).m (0 : Int)).getD k 0) = 0 := by
        refine (sm_congr (g := fun _ => 0) fun i hi => ?_).trans sm_zero
        rw [List.getD_eq_getElem?_getD (l := List.replicate _ _), List.getElem?_replicate, if_pos hi]
        exact Int.mul_zero _
      rw [e3] at e2
      have e4 := e2.symm.trans e1
      have d := dig_getD h2 (k := f) (by omega)
      exact hnz (cg_one h.hp (x := 0) e4 d.1 d.2)
/-- one key's messages -/
theorem loud_mem {j : Nat} {rs : List (List Int)} (hb : rs ∈ loud p ks lot j) : rs ∈ bnds p ks lot ∧ ((rs.getD j []).any fun i => i != 0) = true := by
  have := List.mem_filter.mp hb
  exact ⟨this.1, this.2⟩
theorem quiet_iff (h : KsOk p n ks) (S : Sc p n (inOne ks) gs ps lot) {ns : List (List Int)} (hns : JRows p ks ns) (hf : ns.flatten = readK p (inOne ks) (restsG p gs)) {j : Nat} (hj : j < ks.length) :
    (∀ r ∈ allRows p (ks.getD j k0).m, Rch p (inOne ks).m (inOne ks).cols (canPay ps gs p) n (putR ns j r).flatten) ↔ loud p ks lot j = [] := by
  have p0 : 0 < p := by have := h.hp; omega
  have hjl : j < ns.length := by rw [hns.len]; exact hj
  have hnj := jrows_getD hns hj
  have key : ∀ {u r : List Int}, u ∈ unm p ks lot → r.length = (ks.getD j k0).m → Dig p r → JRows p ks (putR ns j r) ∧ (sm (inOne ks).m fun k => u.getD k 0 * (putR ns j r).flatten.getD k 0) = (sm (inOne ks).m fun k => u.getD k 0 * (readK p (inOne ks) (restsG p gs)).getD k 0) - dot ((partK ks u).getD j []) (ns.getD j []) + dot ((partK ks u).getD j []) r := by
    intro u r hu hr hd
    obtain ⟨h1, h2, _⟩ := unm_row h hu
    obtain ⟨hJ, hfl⟩ := part_J h h1 h2
    have hp := jrows_set hns hj hr hd
    rw [← put_eq hjl] at hp
    refine ⟨hp, ?_⟩
    have l1 : (putR ns j r).flatten.length = (inOne ks).m := by rw [hp.flat.1, inOne_m h.ne]
    have l2 : ns.flatten.length = (inOne ks).m := by rw [hns.flat.1, inOne_m h.ne]
    rw [← hf, ← dot_sm h1 l1, ← dot_sm h1 l2]
    have e1 := dot_flat hJ hp
    have e2 := dot_flat hJ hns
    rw [hfl] at e1 e2
    rw [e1, e2, put_eq hjl, dsum_put (by rw [hJ.len, hns.len]) hjl]
  constructor
  · intro ha
    cases hL : loud p ks lot j with
    | nil => rfl
    | cons b bs =>
      exfalso
      obtain ⟨hb, hnz⟩ := loud_mem (by rw [hL]; exact List.mem_cons_self .. : b ∈ loud p ks lot j)
      rw [bnds_eq] at hb
      obtain ⟨u, hu, rfl⟩ := List.mem_map.mp hb
      obtain ⟨h1, h2, _⟩ := unm_row h hu
      have huj := jrows_getD (part_J h h1 h2).1 hj
      obtain ⟨f, hfl, hne⟩ := any_nz.mp hnz
      have hfm : f < (ks.getD j k0).m := by rw [← huj.1]; exact hfl
      have hbl : (bump p (ns.getD j []) f).length = (ks.getD j k0).m := by rw [bump_len, hnj.1]
      have hbd : Dig p (bump p (ns.getD j []) f) := bump_dig p0 hnj.2
      have hr := (S.rch.mp (ha _ (allRows_mem.mpr ⟨hbl, hbd⟩))).2.2 u hu
      rw [(key hu hbl hbd).2, dot_sm huj.1 hbl, dot_sm huj.1 hnj.1] at hr
      have e := bump_dot (p := p) (u := fun k => ((partK ks u).getD j []).getD k 0) hnj.1 hfm
      have d := dig_getD huj.2 hfl
      refine hne (cg_one h.hp (x := sm (inOne ks).m fun k => u.getD k 0 * (readK p (inOne ks) (restsG p gs)).getD k 0) ?_ d.1 d.2)
      refine Cg.trans ?_ hr
      refine Cg.trans (Cg.of ?_) (Cg.refl.add e.symm)
      omega
  · intro hL r hr
    obtain ⟨h1, h2⟩ := allRows_mem.mp hr
    have hp := jrows_set hns hj h1 h2
    rw [← put_eq hjl] at hp
    refine S.rch.mpr ⟨by rw [hp.flat.1, inOne_m h.ne], hp.flat.2, fun u hu => ?_⟩
    rw [(key hu h1 h2).2]
    obtain ⟨u1, u2, _⟩ := unm_row h hu
    have huj := jrows_getD (part_J h u1 u2).1 hj
    have hz : ∀ k, ((partK ks u).getD j []).getD k 0 = 0 := fun k => by
      by_cases hk : k < ((partK ks u).getD j []).length
      · by_cases hv : ((partK ks u).getD j []).getD k 0 = 0
        · exact hv
        · exfalso
          have : partK ks u ∈ loud p ks lot j := List.mem_filter.mpr ⟨by rw [bnds_eq]; exact List.mem_map.mpr ⟨u, hu, rfl⟩, any_nz.mpr ⟨k, hk, hv⟩⟩
          rw [hL] at this
          cases this
      · rw [List.getD_eq_getElem?_getD, List.getElem?_eq_none (by omega)]
        rfl
    have z : ∀ {x : List Int}, x.length = (ks.getD j k0).m → dot ((partK ks u).getD j []) x = 0 := fun hx => by
      rw [dot_sm huj.1 hx]
      exact (sm_congr (g := fun _ => 0) fun i _ => by rw [hz i]; exact Int.zero_mul _).trans sm_zero
    rw [z hnj.1, z h1]
    exact Cg.of (by omega)
end
end Dry

set_option Elab.async false
set_option linter.all false
set_option maxRecDepth 100000
set_option maxHeartbeats 4000000
namespace Dry
/-! ### how many can be read -/
theorem nodup_sub {α : Type} [DecidableEq α] : ∀ {a b : List α}, a.Nodup → (∀ x ∈ a, x ∈ b) → a.length ≤ b.length
  | [], b, _, _ => Nat.zero_le _
  | x :: a, b, hn, hs => by
    have hx : x ∈ b := hs x (List.mem_cons_self ..)
    have hn' := List.nodup_cons.mp hn
    have ih := nodup_sub (a := a) (b := b.erase x) hn'.2 fun y hy => (List.mem_erase_of_ne (fun e => hn'.1 (by rw [← e]; exact hy))).mpr (hs y (List.mem_cons_of_mem _ hy))
    rw [List.length_erase_of_mem hx] at ih
    have := List.length_pos_of_mem hx
    rw [List.length_cons]
    omega
/-- a subset of the same length is the whole -/
theorem nodup_all {α : Type} [DecidableEq α] {a b : List α} (ha : a.Nodup) (hb : b.Nodup) (hs : ∀ x ∈ a, x ∈ b) : a.length = b.length ↔ ∀ x ∈ b, x ∈ a := by
  constructor
  · intro hl x hx
    apply Decidable.byContradiction
    intro hna
    have := nodup_sub (a := a) (b := b.erase x) ha fun y hy => (List.mem_erase_of_ne (fun e => hna (by rw [← e]; exact hy))).mpr (hs y hy)
    rw [List.length_erase_of_mem hx] at this
    have := List.length_pos_of_mem hx
    omega
  · intro h
    exact Nat.le_antisymm (nodup_sub ha hs) (nodup_sub hb h)
theorem snoc_inj {a b : List Int} {x y : Int} (h : a ++ [x] = b ++ [y]) : a = b ∧ x = y := by
  have := List.append_inj' h rfl
  exact ⟨this.1, by simpa using this.2⟩
theorem allRows_nodup {p : Nat} : ∀ {m : Nat}, (allRows p m).Nodup
  | 0 => by simp [allRows]
  | m + 1 => by
    unfold allRows
    rw [List.nodup_iff_pairwise_ne, List.pairwise_flatMap]
    constructor
    · intro a _
      unfold extR
      rw [List.pairwise_map]
      refine List.Pairwise.imp ?_ (List.nodup_iff_pairwise_ne.mp (List.nodup_range (n := p)))
      intro x y hne e
      have := (snoc_inj e).2
      exact hne (by omega)
    · refine List.Pairwise.imp ?_ (List.nodup_iff_pairwise_ne.mp (allRows_nodup (m := m)))
      intro a b hne x hx y hy e
      obtain ⟨d, _, rfl⟩ := List.mem_map.mp hx
      obtain ⟨d', _, rfl⟩ := List.mem_map.mp hy
      exact hne (snoc_inj e).1
theorem dlen_iff {R : List Int → Prop} {kvs : List (List L2.Key × L2.V)} {p m : Nat} (h : DInv R kvs) (hR : ∀ r, R r → r ∈ allRows p m) : kvs.length = (allRows p m).length ↔ ∀ r ∈ allRows p m, R r := by
  have hb : ((allRows p m).map kOf).Nodup := by
    rw [List.nodup_iff_pairwise_ne, List.pairwise_map]
    refine List.Pairwise.imp ?_ (List.nodup_iff_pairwise_ne.mp allRows_nodup)
    intro a b hne e
    exact hne (kOf_inj e)
  have key := nodup_all h.nd hb fun k hk => by
    obtain ⟨r, e, hr⟩ := (h.mem k).mp hk
    exact List.mem_map.mpr ⟨r, hR r hr, e.symm⟩
  rw [List.length_map, List.length_map] at key
  rw [key]
  constructor
  · intro ha r hr
    obtain ⟨r', e, hr'⟩ := (h.mem _).mp (ha (kOf r) (List.mem_map.mpr ⟨r, hr, rfl⟩))
    rw [kOf_inj e]
    exact hr'
  · intro ha k hk
    obtain ⟨r, hr, rfl⟩ := List.mem_map.mp hk
    exact (h.mem _).mpr ⟨r, rfl, ha r hr⟩
/-! ### the lot -/
def lotOf (ps : List (Option Int)) : List Int := (ps.zipIdx.filter fun x => isN (prD x.1)).map fun x => ((x.2 : Nat) : Int)
theorem lot_mem {ps : List (Option Int)} {c : Nat} (hc : c < ps.length) : (lotOf ps).contains (c : Int) = true ↔ ps.getD c none = none := by
  rw [List.contains_iff_mem]
  unfold lotOf
  rw [List.mem_map]
  constructor
  · rintro ⟨⟨o, i⟩, hx, e⟩
    obtain ⟨h1, h2⟩ := List.mem_filter.mp hx
    have hi : i = c := by have e : ((i : Nat) : Int) = (c : Int) := e; omega
    subst hi
    have := List.mem_zipIdx_iff_getElem?.mp h1
    rw [List.getD_eq_getElem?_getD, this]
    cases o with
    | none => rfl
    | some w => exact Bool.noConfusion h2
  · intro e
    refine ⟨(none, c), List.mem_filter.mpr ⟨List.mem_zipIdx_iff_getElem?.mpr ?_, rfl⟩, rfl⟩
    have := getD_some hc (none : Option Int)
    rw [this, e]
theorem asc_pw : ∀ {l : List Int}, l.Pairwise (· < ·) → asc l = true
  | [], _ => rfl
  | [x], _ => rfl
  | x :: y :: l, h => by
    have h' := List.pairwise_cons.mp h
    have ih := asc_pw h'.2
    unfold asc at ih ⊢
    show (decide (x < y) && _) = true
    rw [decide_eq_true (h'.1 y (List.mem_cons_self ..)), Bool.true_and]
    exact ih
theorem zipIdx_pw {α : Type} : ∀ {l : List α} {k : Nat}, (l.zipIdx k).Pairwise fun a b => a.2 < b.2
  | [], _ => .nil
  | x :: l, k => by
    rw [List.zipIdx_cons]
    refine .cons (fun b hb => ?_) zipIdx_pw
    exact (List.le_snd_of_mem_zipIdx (x := b) hb)
theorem lot_ok {ps : List (Option Int)} {n : Nat} (h : ps.length = n) (hn : n ≤ 10) : LotOk n (lotOf ps) := by
  refine ⟨fun x hx => ?_, asc_pw ?_, ?_⟩
  · obtain ⟨y, hy, rfl⟩ := List.mem_map.mp hx
    have := List.mem_zipIdx_iff_getElem?.mp (List.mem_filter.mp hy).1
    have := (List.getElem?_eq_some_iff.mp this).1
    omega
  · unfold lotOf
    rw [List.pairwise_map]
    exact ((zipIdx_pw (l := ps) (k := 0)).imp fun {a b} h => (by omega : ((a.2 : Nat) : Int) < ((b.2 : Nat) : Int))).filter _
  · unfold lotOf
    rw [List.length_map]
    refine Nat.le_trans (List.length_filter_le _ _) ?_
    rw [List.length_zipIdx]
    omega
end Dry

set_option Elab.async false
set_option linter.all false
set_option maxRecDepth 100000
set_option maxHeartbeats 4000000
namespace Dry
open PySem PySem.Spec PyProof.Rows L2 RZ
section
variable {K : PySem.W.Frag} {te ta tb : TE} {tr : TA} {δ : List Sl} {n n1 : Nat} {ds : List PyData} {P : PyData → Prop} {α β : Type} {enc : β → PyData} {rs : List β}
/-- a call with a def in hand -/
theorem xb_heard {fB : Addr} {dom : List PyData → (PyData → Prop) → Prop} (h : XAD K tr δ ds) (hd : dom ds P) : XB K (tCall (SpH K fB dom) [] E0 (tCons (tC (.ref fB)) tr)) δ n n P := fun bx σ G H En Q q =>
  h n bx σ G H En _ fun vs ds1 G1 H1 t1 r1 p1 => by
    subst p1
    show SpH K fB dom ((V.ref fB :: vs) ++ []) H1 Q E0
    rw [List.append_nil]
    exact ⟨vs, _, P, G1, rfl, t1.ex, r1, hd, fun v d G2 H2 nw r2 p2 => q v d G2 H2 (t1.trans ((En.step t1).trNew nw.gg nw.ex nw.hh nw.nw)) r2 p2⟩
theorem atI_last {x0 : β} (h : 0 < rs.length) : atI rs (-1) = some (rs.getD (rs.length - 1) x0) := by
  have e : ixN rs.length (-1) = some (rs.length - 1) := by
    unfold ixN
    simp
    omega
  unfold atI
  rw [e]
  exact getD_some (by omega) x0
theorem rd_ixLast (x0 : β) (h : 0 < rs.length) : RD K (rIxL K) (.list (rs.map enc)) (.int (-1)) (fun z => z = enc (rs.getD (rs.length - 1) x0)) := rd_ixL (atI_map (atI_last h))
end
theorem tok_lsts : ∀ {k : Nat} {d : PyData}, TOk k d → TOk k (lsts d) ∧ tup (lsts d) = tup d
  | k + 1, .list xs, h => by
    unfold lsts tup
    rw [lstsAll_map]
    refine ⟨tok_list (by rw [List.length_map]; exact h.1) fun x hx => ?_, ?_⟩
    · obtain ⟨y, hy, rfl⟩ := List.mem_map.mp hx
      exact (tok_lsts (h.2 y hy)).1
    · rw [tupAll_map, tupAll_map, List.map_map]
      exact congrArg PyData.tuple (List.map_congr_left fun x hx => (tok_lsts (h.2 x hx)).2)
  | k + 1, .tuple xs, h => by
    unfold lsts
    rw [lstsAll_map]
    refine ⟨tok_list (by rw [List.length_map]; exact h.1) fun x hx => ?_, ?_⟩
    · obtain ⟨y, hy, rfl⟩ := List.mem_map.mp hx
      exact (tok_lsts (h.2 y hy)).1
    · unfold tup
      rw [tupAll_map, tupAll_map, List.map_map]
      exact congrArg PyData.tuple (List.map_congr_left fun x hx => (tok_lsts (h.2 x hx)).2)
  | k + 1, .none, h => ⟨h, rfl⟩
  | k + 1, .bool _, h => ⟨h, rfl⟩
  | k + 1, .int _, h => ⟨h, rfl⟩
  | k + 1, .str _, h => ⟨h, rfl⟩
  | k + 1, .dict _, h => ⟨h, rfl⟩
/-! ### sameness of plain things -/
theorem same_bool {k : Nat} {b : Bool} : sameD (k + 1) (.bool b) (.bool b) = true := by
  cases b <;> rfl
theorem same_bools {k : Nat} (bs : List Bool) : sameD (k + 2) (.list (bs.map PyData.bool)) (.list (bs.map PyData.bool)) = true := by
  unfold sameD
  rw [decide_eq_true rfl, Bool.true_and, List.all_eq_true]
  intro x hx
  rw [List.zip_map', List.mem_map] at hx
  obtain ⟨b, _, rfl⟩ := hx
  exact same_bool
theorem same_paper {k : Nat} : sameD (k + 2) paperD paperD = true := by
  unfold sameD paperD
  simp only [List.zip_cons_cons, List.zip_nil_left, List.all_cons, List.all_nil, Bool.and_true, decide_true, Bool.true_and]
  rfl
theorem sok_bool {k : Nat} {b : Bool} : SOk (k + 1) (.bool b) := trivial
theorem sok_bools {k : Nat} {bs : List Bool} (h : bs.length ≤ 50000) : SOk (k + 2) (.list (bs.map PyData.bool)) := ⟨by rw [List.length_map]; exact h, fun x hx => by
  obtain ⟨b, _, rfl⟩ := List.mem_map.mp hx
  trivial⟩
theorem sok_paper {k : Nat} : SOk (k + 2) paperD := ⟨by simp, fun x hx => by
  simp only [List.mem_cons, List.not_mem_nil, or_false] at hx
  subst hx
  show PyData.strOk _ = true
  decide +kernel⟩
theorem sok_row {k : Nat} {r : List Int} (h : r.length ≤ 50000) : SOk (k + 2) (rowD r) := ⟨by rw [List.length_map]; exact h, fun x hx => by
  obtain ⟨i, _, rfl⟩ := List.mem_map.mp hx
  trivial⟩
theorem sok_rows {k : Nat} {rs : List (List Int)} (h : rs.length ≤ 50000) (h2 : ∀ r ∈ rs, r.length ≤ 50000) : SOk (k + 3) (rowsD rs) := ⟨by rw [List.length_map]; exact h, fun x hx => by
  obtain ⟨r, hr, rfl⟩ := List.mem_map.mp hx
  exact sok_row (h2 r hr)⟩
end Dry

set_option Elab.async false
set_option linter.all false
set_option maxRecDepth 100000
set_option maxHeartbeats 4000000
namespace Dry
open PySem PySem.Spec PyProof.Rows L2 RZ
section
variable {P : Program} {w : World} {K : PySem.W.Frag} {mg : Str → Option Value} {base : Heap}
/-! ### told or paper -/
def toldD : List (List (List Int)) → PyData
  | [] => paperD
  | b :: _ => rowsD b
theorem told_of {bs : List (List (List Int))} {z : PyData} (h : (bs ≠ [] ∧ z = rowsD (bs.getD 0 [])) ∨ (bs = [] ∧ z = paperD)) : z = toldD bs := by
  rcases h with ⟨h1, h2⟩ | ⟨h1, h2⟩
  · cases bs with
    | nil => exact absurd rfl h1
    | cons b bs => exact h2
  · rw [h1]
    exact h2
theorem xc_heard2 {f2 : Addr} {tr : TA} {δ : List Sl} {p n : Nat} {ks : List Ky} {lot : List Int} {d e : PyData} (h0 : XAD K tr δ [d, e, .none]) (h1 : KsOk p n ks) (h2 : LotOk n lot) (h3 : tup d = keysD ks ∧ TOk 6 d) (h4 : tup e = rowD lot ∧ TOk 6 e) :
    XD K (tCall (SpH K f2 (dom_heard2 dom_binding)) [] E0 (tCons (tC (.ref f2)) tr)) δ (toldD (bnds p ks lot)) := fun m =>
  (xb_heard h0 ⟨d, e, _, _, rfl, ⟨p, n, ks, lot, d, e, rfl, h1, h2, h3, h4, rfl, rfl⟩, rfl⟩).imp (Nat.le_refl _) fun z hz => told_of hz
theorem xc_heard3 {f3 : Addr} {tr : TA} {δ : List Sl} {p n j : Nat} {ks : List Ky} {lot : List Int} {d e : PyData} (h0 : XAD K tr δ [d, e, .int j]) (h1 : KsOk p n ks) (h2 : LotOk n lot) (h3 : tup d = keysD ks ∧ TOk 6 d) (h4 : tup e = rowD lot ∧ TOk 6 e) (h5 : j < ks.length) :
    XD K (tCall (SpH K f3 (dom_heard3 dom_loud_binding)) [] E0 (tCons (tC (.ref f3)) tr)) δ (toldD (loud p ks lot j)) := fun m =>
  (xb_heard h0 ⟨d, e, _, _, _, rfl, rfl, ⟨p, n, j, ks, lot, d, e, rfl, h1, h2, h3, h4, h5, rfl, rfl⟩, rfl⟩).imp (Nat.le_refl _) fun z hz => told_of hz
/-! ### the park by hand -/
theorem park_ks : KsOk 2 6 parkK := by
  refine ⟨.inl rfl, by decide, by decide, by decide, by decide, fun k hk => ?_⟩
  simp only [parkK, List.mem_cons, List.not_mem_nil, or_false] at hk
  rcases hk with rfl | rfl
  · refine ⟨⟨rfl, by decide, rfl, ?_⟩, by decide⟩
    unfold Dig
    decide
  · refine ⟨⟨rfl, by decide, rfl, ?_⟩, by decide⟩
    unfold Dig
    decide
theorem park_nil {lot : List Int} (h : ((allRows 2 3).all fun r => !isBind 2 parkK lot (rowsD (partK parkK r))) = true) : bnds 2 parkK lot = [] :=
  (none_iff park_ks).mp fun r hr => by
    have := List.all_eq_true.mp h r hr
    simpa using this
theorem park_not {lot : List Int} (h : ((allRows 2 3).any fun r => isBind 2 parkK lot (rowsD (partK parkK r))) = true) : bnds 2 parkK lot ≠ [] := fun e => by
  obtain ⟨r, hr, hb⟩ := List.any_eq_true.mp h
  rw [(none_iff park_ks).mpr e r hr] at hb
  cases hb
theorem park_told {rs : List (List Int)} (h : rs ∈ bnds 2 parkK [1, 2, 5]) : rs = [[0, 1], [0]] := by
  have ht := told_bind park_ks h
  rw [bnds_eq] at h
  obtain ⟨u, hu, rfl⟩ := List.mem_map.mp h
  obtain ⟨h1, h2, _⟩ := unm_row park_ks hu
  have hr : u ∈ allRows 2 3 := allRows_mem.mpr ⟨h1, h2⟩
  have key : ((allRows 2 3).all fun r => !isBind 2 parkK [1, 2, 5] (rowsD (partK parkK r)) || decide (partK parkK r = [[0, 1], [0]])) = true := by decide +kernel
  have := List.all_eq_true.mp key u hr
  rw [ht] at this
  simpa using this
theorem park_a : bnds 2 parkK [] = [] := park_nil (by decide +kernel)
theorem park_b : bnds 2 parkK [1] = [] := park_nil (by decide +kernel)
theorem park_c : bnds 2 parkK [0, 3] = [] := park_nil (by decide +kernel)
theorem park_d : (bnds 2 parkK [0, 3, 4]).isEmpty = false := by
  have : bnds 2 parkK [0, 3, 4] ≠ [] := park_not (by decide +kernel)
  cases h : bnds 2 parkK [0, 3, 4] with
  | nil => exact absurd h this
  | cons b bs => rfl
theorem park_e : bnds 2 parkK [1, 2, 5] ≠ [] := park_not (by decide +kernel)
theorem told_all {bs : List (List (List Int))} (h : bs ≠ []) (k : ∀ b ∈ bs, b = [[0, 1], [0]]) : bs.isEmpty = false ∧ toldD bs = rowsD [[0, 1], [0]] := by
  cases bs with
  | nil => exact absurd rfl h
  | cons b bs => exact ⟨rfl, by rw [k b (List.mem_cons_self ..)]; rfl⟩
theorem park_f : (bnds 2 parkK [1, 2, 5]).isEmpty = false ∧ toldD (bnds 2 parkK [1, 2, 5]) = rowsD [[0, 1], [0]] := told_all park_e fun b hb => park_told hb
theorem park_g : (loud 2 parkK [1, 2, 5] 0).isEmpty = false ∧ toldD (loud 2 parkK [1, 2, 5] 0) = rowsD [[0, 1], [0]] := by
  refine told_all (fun e => ?_) fun b hb => park_told (loud_mem hb).1
  cases h : bnds 2 parkK [1, 2, 5] with
  | nil => exact park_e h
  | cons b bs =>
    have hb : b ∈ bnds 2 parkK [1, 2, 5] := by rw [h]; exact List.mem_cons_self ..
    have hl : b ∈ loud 2 parkK [1, 2, 5] 0 := List.mem_filter.mpr ⟨hb, by rw [park_told hb]; decide⟩
    rw [e] at hl
    cases hl
theorem park_h : loud 2 parkK [1, 2, 5] 1 = [] := by
  cases h : loud 2 parkK [1, 2, 5] 1 with
  | nil => rfl
  | cons b bs =>
    obtain ⟨h1, h2⟩ := loud_mem (by rw [h]; exact List.mem_cons_self .. : b ∈ loud 2 parkK [1, 2, 5] 1)
    rw [park_told h1] at h2
    exact absurd h2 (by decide)
theorem lot_by {lot : List Int} (h1 : (lot.all fun x => decide (0 ≤ x ∧ x < 6)) = true) (h2 : asc lot = true) (h3 : lot.length ≤ 100) : LotOk 6 lot := ⟨fun x hx => of_decide_eq_true (List.all_eq_true.mp h1 x hx), h2, h3⟩
def handD : PyData := .list [.bool true, .bool true, .bool false, .bool false, rowsD [[0, 1], [0]], paperD, .bool false, .bool true, rowsD [[0, 1], [0]], paperD]
theorem sok_hand : SOk 8 handD := by
  refine ⟨by simp, fun x hx => ?_⟩
  simp only [List.mem_cons, List.not_mem_nil, or_false] at hx
  rcases hx with rfl | rfl | rfl | rfl | rfl | rfl | rfl | rfl | rfl | rfl <;> first | trivial | exact sok_paper | exact sok_rows (by decide) (by decide)
theorem same_hand : sameD 8 handD handD = true := by decide +kernel
theorem sc_l_by_hand_right : FnScope ["_law_got", "_law_park_so", "_law_fees_so", "_law_tight_so", "_law_both_so", "_law_own"] [] (defScope s_l_by_hand_right) := ⟨rfl, rfl, rfl, by decide +kernel, rfl, by decide +kernel, by decide +kernel⟩
abbrev lv_l_by_hand_right : Nat := 16
def dom_l_by_hand_right : List PyData → (PyData → Prop) → Prop := fun ds0 P0 => ds0 = [] ∧ P0 = (fun z => z = .bool true)
abbrev sp_l_by_hand_right (K : PySem.W.Frag) : Sp := SpD K dom_l_by_hand_right
theorem xc_l_by_hand_right {K : PySem.W.Frag} {tr : TA} {δ : List Sl}  (h0 : XAD K tr δ []) : XD K (tCall (sp_l_by_hand_right K) [] E0 tr) δ (.bool true) := xd_callD h0 ⟨rfl, rfl⟩
theorem ok_l_by_hand_right (D : Df K mg "_law_by_hand_right" s_l_by_hand_right) (B : Bi mg) {f2 : Addr} (C_heard2 : Call1 P w K mg base CX0 lv_l_heard "_law_heard" (SpH K f2 (dom_heard2 dom_binding))) (m2 : mg "binding" = some (.ref f2)) {f3 : Addr} (C_heard3 : Call1 P w K mg base CX0 lv_l_heard "_law_heard" (SpH K f3 (dom_heard3 dom_loud_binding))) (m3 : mg "loud_binding" = some (.ref f3)) (C_l_park : Call1 P w K mg base CX0 lv_l_park "_law_park" (sp_l_park K)) (C_l_same : Call1 P w K mg base CX0 lv_l_same "_law_same" (sp_l_same K)) (C_always_all : Call1 P w K mg base CX0 lv_always_all "always_all" (sp_always_all K)) (C_always_quiet : Call1 P w K mg base CX0 lv_always_quiet "always_quiet" (sp_always_quiet K)) : Call1 P w K mg base CX0 lv_l_by_hand_right "_law_by_hand_right" (sp_l_by_hand_right K) := by
  refine fun_ok (k := 15) (N := ["_law_got", "_law_park_so", "_law_fees_so", "_law_tight_so", "_law_both_so", "_law_own"]) (ps := []) D sc_l_by_hand_right (fun ds0 P0 hd => by obtain ⟨rfl, rfl⟩ := hd; rfl) (fun _ _ _ _ _ _ us hl => match us, hl with | [], _ => rfl) fun f cdv A outer s H E hr => ⟨_, 
    (pss_cons (ps_asg (g := (gTup K 4 (gCons (gName 1) (gCons (gName 2) (gCons (gName 3) (gCons (gName 4) gNil)))))) (pe_callC0 C_l_park (hr.mono (by decide)) (by rfl)) (pgTup (K := K) rfl (pgs_cons (pgN (i := 1) sc_l_by_hand_right.nd rfl (by first | exact Or.inl rfl | exact Or.inr rfl) (by first | exact Or.inl rfl | exact Or.inr rfl)) (pgs_cons (pgN (i := 2) sc_l_by_hand_right.nd rfl (by first | exact Or.inl rfl | exact Or.inr rfl) (by first | exact Or.inl rfl | exact Or.inr rfl)) (pgs_cons (pgN (i := 3) sc_l_by_hand_right.nd rfl (by first | exact Or.inl rfl | exact Or.inr rfl) (by first | exact Or.inl rfl | exact Or.inr rfl)) (pgs_cons (pgN (i := 4) sc_l_by_hand_right.nd rfl (by first | exact Or.inl rfl | exact Or.inr rfl) (by first | exact Or.inl rfl | exact Or.inr rfl)) pgs_nil))))))
      (pss_cons (ps_set (i := 0) sc_l_by_hand_right.nd rfl (by first | exact Or.inl rfl | exact Or.inr rfl) (pe_op op_cat (pe_lc (own := [("_law_own", 5)]) (g := (gName 5)) (tt := tYes) rfl sc_l_by_hand_right.nd (piTup (K := K) (pe_tup (pa_cons (pe_tup pa_nil) (pa_cons (pe_tup (pa_cons pe_int pa_nil)) (pa_cons (pe_tup (pa_cons pe_int (pa_cons pe_int (pa_cons pe_int pa_nil)))) (pa_cons (pe_tup (pa_cons pe_int (pa_cons pe_int (pa_cons pe_int pa_nil)))) pa_nil)))))) (blkOk_by (N := ["_law_got", "_law_park_so", "_law_fees_so", "_law_tight_so", "_law_both_so", "_law_own"]) (sc := defScope s_l_by_hand_right) (by decide +kernel)) (fun _ _ _ _ _ => (pgN (i := 5) sc_l_by_hand_right.nd rfl (by first | exact Or.inl rfl | exact Or.inr rfl) (by first | exact Or.inl rfl | exact Or.inr rfl))) (fun _ _ _ _ _ => pts_nil) (fun _ _ _ _ _ => (pe_callC C_always_all (hr.mono (by decide)) (by rfl) (pa_cons (pv 4) (pa_cons (pv 5) pa_nil))))) (pe_lc (own := [("_law_own", 5)]) (g := (gName 5)) (tt := tYes) rfl sc_l_by_hand_right.nd (piTup (K := K) (pe_tup (pa_cons (pe_tup (pa_cons pe_int (pa_cons pe_int (pa_cons pe_int pa_nil)))) (pa_cons (pe_tup (pa_cons pe_int (pa_cons pe_int pa_nil))) pa_nil)))) (blkOk_by (N := ["_law_got", "_law_park_so", "_law_fees_so", "_law_tight_so", "_law_both_so", "_law_own"]) (sc := defScope s_l_by_hand_right) (by decide +kernel)) (fun _ _ _ _ _ => (pgN (i := 5) sc_l_by_hand_right.nd rfl (by first | exact Or.inl rfl | exact Or.inr rfl) (by first | exact Or.inl rfl | exact Or.inr rfl))) (fun _ _ _ _ _ => pts_nil) (fun _ _ _ _ _ => (pe_callC C_heard2 (hr.mono (by decide)) (by rfl) (pa_cons (pe_glob (v := .ref f2) (by rfl) m2 rfl) (pa_cons (pv 4) (pa_cons (pv 5) (pa_cons pe_non pa_nil)))))))) (hf := (by first | exact Or.inl rfl | exact Or.inr rfl)))
      (pss_cons (ps_set (i := 0) sc_l_by_hand_right.nd rfl (by first | exact Or.inl rfl | exact Or.inr rfl) (pe_op op_cat (pe_op op_cat (pv 0) (pe_lc (own := [("_law_own", 5)]) (g := (gName 5)) (tt := tYes) rfl sc_l_by_hand_right.nd (piTup (K := K) (pe_tup (pa_cons pe_int (pa_cons pe_int pa_nil)))) (blkOk_by (N := ["_law_got", "_law_park_so", "_law_fees_so", "_law_tight_so", "_law_both_so", "_law_own"]) (sc := defScope s_l_by_hand_right) (by decide +kernel)) (fun _ _ _ _ _ => (pgN (i := 5) sc_l_by_hand_right.nd rfl (by first | exact Or.inl rfl | exact Or.inr rfl) (by first | exact Or.inl rfl | exact Or.inr rfl))) (fun _ _ _ _ _ => pts_nil) (fun _ _ _ _ _ => (pe_callC C_always_quiet (hr.mono (by decide)) (by rfl) (pa_cons (pv 4) (pa_cons (pe_tup (pa_cons pe_int (pa_cons pe_int (pa_cons pe_int pa_nil)))) (pa_cons (pv 5) pa_nil))))))) (pe_lc (own := [("_law_own", 5)]) (g := (gName 5)) (tt := tYes) rfl sc_l_by_hand_right.nd (piTup (K := K) (pe_tup (pa_cons pe_int (pa_cons pe_int pa_nil)))) (blkOk_by (N := ["_law_got", "_law_park_so", "_law_fees_so", "_law_tight_so", "_law_both_so", "_law_own"]) (sc := defScope s_l_by_hand_right) (by decide +kernel)) (fun _ _ _ _ _ => (pgN (i := 5) sc_l_by_hand_right.nd rfl (by first | exact Or.inl rfl | exact Or.inr rfl) (by first | exact Or.inl rfl | exact Or.inr rfl))) (fun _ _ _ _ _ => pts_nil) (fun _ _ _ _ _ => (pe_callC C_heard3 (hr.mono (by decide)) (by rfl) (pa_cons (pe_glob (v := .ref f3) (by rfl) m3 rfl) (pa_cons (pv 4) (pa_cons (pe_tup (pa_cons pe_int (pa_cons pe_int (pa_cons pe_int pa_nil)))) (pa_cons (pv 5) pa_nil)))))))) (hf := (by first | exact Or.inl rfl | exact Or.inr rfl)))
      (pss_one (ps_ret (pe_callC C_l_same (hr.mono (by decide)) (by rfl) (pa_cons (pv 0) (pa_cons (pe_lst (pa_cons pe_bl (pa_cons pe_bl (pa_cons pe_bl (pa_cons pe_bl (pa_cons (pe_tup (pa_cons (pe_tup (pa_cons pe_int (pa_cons pe_int pa_nil))) (pa_cons (pe_tup (pa_cons pe_int pa_nil)) pa_nil))) (pa_cons (pe_lst (pa_cons pe_str pa_nil)) (pa_cons pe_bl (pa_cons pe_bl (pa_cons (pe_tup (pa_cons (pe_tup (pa_cons pe_int (pa_cons pe_int pa_nil))) (pa_cons (pe_tup (pa_cons pe_int pa_nil)) pa_nil))) (pa_cons (pe_lst (pa_cons pe_str pa_nil)) pa_nil))))))))))) pa_nil)))))))), fun ds0 P0 hd => ?_⟩
  obtain ⟨rfl, rfl⟩ := hd
  have hk := park_ks
  have hd : tup (keysD parkK) = keysD parkK ∧ TOk 6 (keysD parkK) := ⟨tup_keys _, tok_keys hk⟩
  have he : ∀ {l : List Int}, l.length ≤ 6 → tup (rowD l) = rowD l ∧ TOk 6 (rowD l) := fun h => ⟨tup_row _, tok_row (by omega)⟩
  have mem4 : ∀ {x : List Int}, x ∈ [[], [1], [1, 2, 5], [0, 3, 4]] → LotOk 6 x ∧ x.length ≤ 6 := fun {x} hx => by
    simp only [List.mem_cons, List.not_mem_nil, or_false] at hx
    rcases hx with rfl | rfl | rfl | rfl <;> exact ⟨lot_by (by decide) (by decide) (by decide), by decide⟩
  have mem2 : ∀ {x : List Int}, x ∈ [[1, 2, 5], [0, 3]] → LotOk 6 x ∧ x.length ≤ 6 := fun {x} hx => by
    simp only [List.mem_cons, List.not_mem_nil, or_false] at hx
    rcases hx with rfl | rfl <;> exact ⟨lot_by (by decide) (by decide) (by decide), by decide⟩
  have memj : ∀ {x : Nat}, x ∈ [0, 1] → x < parkK.length := fun {x} hx => by
    simp only [List.mem_cons, List.not_mem_nil, or_false] at hx
    rcases hx with rfl | rfl <;> decide
  have h125 : LotOk 6 [1, 2, 5] := lot_by (by decide) (by decide) (by decide)
  refine sj_seq (sj_asgGD (xc_l_park xad_nil) (xg_tup (xgs_cons (xgs_cons (xgs_cons (xgs_cons xgs_nil)))) rfl) ?_)
  refine sj_seq (sj_asgD (d := .list [.bool true, .bool true, .bool false, .bool false, rowsD [[0, 1], [0]], paperD]) (XD.is (xd_opN (xd_lcMap (js := [5]) (xs := [[], [1], [1, 2, 5], [0, 3, 4]]) (A := rowD) (xid_tup (xd_tup (xad_cons (xd_tup xad_nil (by simp)) (xad_cons (xd_tup (xad_cons xd_int xad_nil) (by simp)) (xad_cons (xd_tup (xad_cons xd_int (xad_cons xd_int (xad_cons xd_int xad_nil))) (by simp)) (xad_cons (xd_tup (xad_cons xd_int (xad_cons xd_int (xad_cons xd_int xad_nil))) (by simp)) xad_nil)))) (by simp))) (by simp) (by simp) (fun x hx => xg_name) (fun x hx => (xc_always_all (xad_cons (xd_var rfl) (xad_cons (xd_var rfl) xad_nil)) hk (mem4 hx).1 hd (he (mem4 hx).2)))) (xd_lcMap (js := [5]) (xs := [[1, 2, 5], [0, 3]]) (A := rowD) (xid_tup (xd_tup (xad_cons (xd_tup (xad_cons xd_int (xad_cons xd_int (xad_cons xd_int xad_nil))) (by simp)) (xad_cons (xd_tup (xad_cons xd_int (xad_cons xd_int xad_nil)) (by simp)) xad_nil)) (by simp))) (by simp) (by simp) (fun x hx => xg_name) (fun x hx => (xc_heard2 (xad_cons (xd_var rfl) (xad_cons (xd_var rfl) (xad_cons xd_non xad_nil))) hk (mem2 hx).1 hd (he (mem2 hx).2)))) (rn_cat (by simp))) ?_) ?_)
  · simp only [List.map_cons, List.map_nil, List.cons_append, List.nil_append, park_a, park_b, park_c, park_d, park_f.1, park_f.2, List.isEmpty_nil]
    rfl
  refine sj_seq (sj_asgD (d := handD) (XD.is (xd_opN (xd_opN (xd_var rfl) (xd_lcMap (js := [5]) (xs := [0, 1]) (A := fun i : Nat => PyData.int (i : Int)) (xid_tup (xd_tup (xad_cons xd_int (xad_cons xd_int xad_nil)) (by simp))) (by simp) (by simp) (fun x hx => xg_name) (fun x hx => (xc_always_quiet (xad_cons (xd_var rfl) (xad_cons (xd_tup (xad_cons xd_int (xad_cons xd_int (xad_cons xd_int xad_nil))) (by simp)) (xad_cons (xd_var rfl) xad_nil))) hk h125 hd (he (l := [1, 2, 5]) (by decide)) (memj hx)))) (rn_cat (by simp))) (xd_lcMap (js := [5]) (xs := [0, 1]) (A := fun i : Nat => PyData.int (i : Int)) (xid_tup (xd_tup (xad_cons xd_int (xad_cons xd_int xad_nil)) (by simp))) (by simp) (by simp) (fun x hx => xg_name) (fun x hx => (xc_heard3 (xad_cons (xd_var rfl) (xad_cons (xd_tup (xad_cons xd_int (xad_cons xd_int (xad_cons xd_int xad_nil))) (by simp)) (xad_cons (xd_var rfl) xad_nil))) hk h125 hd (he (l := [1, 2, 5]) (by decide)) (memj hx)))) (rn_cat (by simp))) ?_) ?_)
  · simp only [List.map_cons, List.map_nil, List.cons_append, List.nil_append, park_g.1, park_g.2, park_h, List.isEmpty_nil]
    rfl
  exact sj_retD ((xc_l_same (g := handD) (d := handD) (xad_cons (xd_var rfl) (xad_cons (xd_lst (xad_cons xd_bl (xad_cons xd_bl (xad_cons xd_bl (xad_cons xd_bl (xad_cons (xd_tup (xad_cons (xd_tup (xad_cons xd_int (xad_cons xd_int xad_nil)) (by simp)) (xad_cons (xd_tup (xad_cons xd_int xad_nil) (by simp)) xad_nil)) (by simp)) (xad_cons (xd_lst (xad_cons xd_str xad_nil) (by simp)) (xad_cons xd_bl (xad_cons xd_bl (xad_cons (xd_tup (xad_cons (xd_tup (xad_cons xd_int (xad_cons xd_int xad_nil)) (by simp)) (xad_cons (xd_tup (xad_cons xd_int xad_nil) (by simp)) xad_nil)) (by simp)) (xad_cons (xd_lst (xad_cons xd_str xad_nil) (by simp)) xad_nil)))))))))) (by simp)) xad_nil)) sok_hand sok_hand).is (by rw [same_hand])) rfl
end
end Dry

set_option Elab.async false
set_option linter.all false
set_option maxRecDepth 100000
set_option maxHeartbeats 4000000
namespace Dry
open PySem PySem.Spec PyProof.Rows L2 RZ
section
variable {P : Program} {w : World} {K : PySem.W.Frag} {mg : Str → Option Value} {base : Heap}
theorem rn_catP {ds es : List PyData} {PL : List PyData → Prop} (hl : ds.length + es.length ≤ 100000) (hp : PL (ds ++ es)) : RN K rCat (.list ds) (.list es) PL := fun x y bx n δ σ G H E h1 h2 Q q =>
  rn_cat hl x y bx n δ σ G H E h1 h2 Q fun p xs ds' G' H' t a1 a2 a3 a4 a5 => q p xs ds' G' H' t a1 a2 a3 a4 (by rw [a5]; exact hp)
theorem dsm_rows {rs : List (List Int)} (h1 : rs.length ≤ 1000) (h2 : ∀ r ∈ rs, r.length ≤ 1000) : DSm (rowsD rs) := fun ds e => by
  cases e
  refine ⟨by rw [List.length_map]; exact h1, fun x hx es ex => ?_⟩
  obtain ⟨r, hr, rfl⟩ := List.mem_map.mp hx
  cases ex
  rw [List.length_map]
  exact h2 r hr
theorem dsm_list {ds : List PyData} : DSm (.list ds) := fun _ e => nomatch e
theorem dsm_rep {x : PyData} {k : Nat} (hk : k ≤ 1000) (h : ∀ es, x = .tuple es → es.length ≤ 1000) : DSm (.tuple (List.replicate k [x]).flatten) := fun ds e => by
  cases e
  have e2 : (List.replicate k [x]).flatten = List.replicate k x := by
    induction k with
    | zero => rfl
    | succ k ih => rw [List.replicate_succ, List.flatten_cons, ih (by omega), List.replicate_succ]; rfl
  rw [e2]
  refine ⟨by simpa using hk, fun y hy => ?_⟩
  rw [(List.mem_replicate.mp hy).2]
  exact h
theorem mem_cut {α : Type} {xs : List α} {lo hi : Option Int} {x : α} (h : x ∈ cutP xs lo hi) : x ∈ xs := List.mem_of_mem_drop (List.mem_of_mem_take h)
theorem len_cut {α : Type} {xs : List α} {lo hi : Option Int} : (cutP xs lo hi).length ≤ xs.length := by
  unfold cutP
  rw [List.length_take, List.length_drop]
  omega
theorem sok_told {bs : List (List (List Int))} (h : ∀ b ∈ bs, b.length ≤ 50000 ∧ ∀ r ∈ b, r.length ≤ 50000) : SOk 8 (toldD bs) := by
  cases bs with
  | nil => exact sok_paper
  | cons b bs => exact sok_rows (h b (List.mem_cons_self ..)).1 (h b (List.mem_cons_self ..)).2
theorem dsm_told {bs : List (List (List Int))} (h : ∀ b ∈ bs, DSm (rowsD b)) : DSm (toldD bs) := by
  cases bs with
  | nil => exact dsm_list
  | cons b bs => exact h b (List.mem_cons_self ..)
theorem told_ne {bs : List (List (List Int))} (h : (!bs.isEmpty) = true) : toldD bs = rowsD (bs.getD 0 []) := by
  cases bs with
  | nil => cases h
  | cons b bs => rfl
theorem mem_head {bs : List (List (List Int))} (h : (!bs.isEmpty) = true) : bs.getD 0 [] ∈ bs := by
  cases bs with
  | nil => cases h
  | cons b bs => exact List.mem_cons_self ..
theorem sok_boolsF {α : Type} {k : Nat} {f : α → Bool} {xs : List α} (h : xs.length ≤ 50000) : SOk (k + 2) (.list (xs.map fun x => .bool (f x))) := by
  have := sok_bools (k := k) (bs := xs.map f) (by rw [List.length_map]; exact h)
  rw [List.map_map] at this
  exact this
theorem same_boolsF {α : Type} {k : Nat} {f : α → Bool} {xs : List α} : sameD (k + 2) (.list (xs.map fun x => .bool (f x))) (.list (xs.map fun x => .bool (f x))) = true := by
  have := same_bools (k := k) (xs.map f)
  rw [List.map_map] at this
  exact this
def rightF (δ : List Sl) : PyData → List Sl
  | .tuple [a, b, c, d] => (((δ.set 9 (.val a)).set 10 (.val b)).set 11 (.val c)).set 12 (.val d)
  | _ => δ
theorem sc_l_right : FnScope ["_law_tin", "_law_lot_so", "_law_rows_so", "_law_bound_so", "_law_costs_so", "_law_due", "_law_told", "_law_k", "_law_things_so", "_law_picture_so", "_law_prices_so", "_law_keys_so", "_law_messages_so", "_law_whole_so", "_law_soft_so", "_law_own"] ["_law_tin"] (defScope s_l_right) := ⟨rfl, rfl, rfl, by decide +kernel, rfl, by decide +kernel, by decide +kernel⟩
abbrev lv_l_right : Nat := 16
def dom_l_right : List PyData → Nat → (PyData → Prop) → Prop := fun ds0 c0 P0 => ds0 = [] ∧ c0 = 2008 ∧ P0 = (fun z => z = .bool true)
abbrev sp_l_right (K : PySem.W.Frag) : Sp := SpB K dom_l_right
theorem xc_l_right {K : PySem.W.Frag} {tr : TA} {δ : List Sl} {nn ii : Nat}  (hi : δ[ii]? = some .box) (h0 : XAD K tr δ []) (hc : nn + (2008) ≤ 2 ^ 50) : XB K (tCall (sp_l_right K) [] E0 (tCons (tVar ii) tr)) δ nn (nn + (2008)) (fun z => z = .bool true) := xb_callB hi (h0 nn) (fun es e => by rw [e]; exact ⟨rfl, rfl, rfl⟩) hc
theorem ok_l_right (D : Df K mg "_law_right" s_l_right) (B : Bi mg) (C_l_all_rows : Call1 P w K mg base CX0 lv_l_all_rows "_law_all_rows" (sp_l_all_rows K)) {f2 : Addr} (C_heard2 : Call1 P w K mg base CX0 lv_l_heard "_law_heard" (SpH K f2 (dom_heard2 dom_binding))) (m2 : mg "binding" = some (.ref f2)) {f3 : Addr} (C_heard3 : Call1 P w K mg base CX0 lv_l_heard "_law_heard" (SpH K f3 (dom_heard3 dom_loud_binding))) (m3 : mg "loud_binding" = some (.ref f3)) (C_l_is_binding : Call1 P w K mg base CX0 lv_l_is_binding "_law_is_binding" (sp_l_is_binding K)) (C_l_least_costs : Call1 P w K mg base CX0 lv_l_least_costs "_law_least_costs" (sp_l_least_costs K)) (C_l_lists : Call1 P w K mg base CX0 lv_l_lists "_law_lists" (sp_l_lists K)) (C_l_parted : Call1 P w K mg base CX0 lv_l_parted "_law_parted" (sp_l_parted K)) (C_l_pick : Call1 P w K mg base CX0 lv_l_pick "_law_pick" (sp_l_pick K)) (C_l_quiet_so : Call1 P w K mg base CX0 lv_l_quiet_so "_law_quiet_so" (sp_l_quiet_so K)) (C_l_same : Call1 P w K mg base CX0 lv_l_same "_law_same" (sp_l_same K)) (C_l_scene : Call1 P w K mg base CX0 lv_l_scene "_law_scene" (sp_l_scene K)) (C_l_stacked : Call1 P w K mg base CX0 lv_l_stacked "_law_stacked" (sp_l_stacked K)) (C_always_all : Call1 P w K mg base CX0 lv_always_all "always_all" (sp_always_all K)) (C_always_quiet : Call1 P w K mg base CX0 lv_always_quiet "always_quiet" (sp_always_quiet K)) (C_is_binding : Call1 P w K mg base CX0 lv_is_binding "is_binding" (sp_is_binding K)) : Call1 P w K mg base CX0 lv_l_right "_law_right" (sp_l_right K) := by
  refine fun_okB (k := 15) (N := ["_law_tin", "_law_lot_so", "_law_rows_so", "_law_bound_so", "_law_costs_so", "_law_due", "_law_told", "_law_k", "_law_things_so", "_law_picture_so", "_law_prices_so", "_law_keys_so", "_law_messages_so", "_law_whole_so", "_law_soft_so", "_law_own"]) (ps := ["_law_tin"]) D sc_l_right (by simp) (fun ds0 c0 P0 hd => by obtain ⟨rfl, rfl, rfl⟩ := hd; rfl) (fun _ _ _ _ _ _ us hl => match us, hl with | [_], _ => rfl) fun f cdv A outer s H E hr => ⟨_, 
    (pss_cons (ps_asg (g := (gTup K 4 (gCons (gName 9) (gCons (gName 10) (gCons (gName 11) (gCons (gName 12) gNil)))))) (pe_callC C_l_scene (hr.mono (by decide)) (by rfl) (pa_cons (pv 0) pa_nil)) (pgTup (K := K) rfl (pgs_cons (pgN (i := 9) sc_l_right.nd rfl (by first | exact Or.inl rfl | exact Or.inr rfl) (by first | exact Or.inl rfl | exact Or.inr rfl)) (pgs_cons (pgN (i := 10) sc_l_right.nd rfl (by first | exact Or.inl rfl | exact Or.inr rfl) (by first | exact Or.inl rfl | exact Or.inr rfl)) (pgs_cons (pgN (i := 11) sc_l_right.nd rfl (by first | exact Or.inl rfl | exact Or.inr rfl) (by first | exact Or.inl rfl | exact Or.inr rfl)) (pgs_cons (pgN (i := 12) sc_l_right.nd rfl (by first | exact Or.inl rfl | exact Or.inr rfl) (by first | exact Or.inl rfl | exact Or.inr rfl)) pgs_nil))))))
      (pss_cons (ps_asg (g := (gTup K 2 (gCons (gName 13) (gCons (gName 14) gNil)))) (pe_tup (pa_cons (pe_callC C_l_stacked (hr.mono (by decide)) (by rfl) (pa_cons (pv 11) pa_nil)) (pa_cons (pe_callC C_l_lists (hr.mono (by decide)) (by rfl) (pa_cons (pv 11) pa_nil)) pa_nil))) (pgTup (K := K) rfl (pgs_cons (pgN (i := 13) sc_l_right.nd rfl (by first | exact Or.inl rfl | exact Or.inr rfl) (by first | exact Or.inl rfl | exact Or.inr rfl)) (pgs_cons (pgN (i := 14) sc_l_right.nd rfl (by first | exact Or.inl rfl | exact Or.inr rfl) (by first | exact Or.inl rfl | exact Or.inr rfl)) pgs_nil))))
      (pss_cons (ps_set (i := 1) sc_l_right.nd rfl (by first | exact Or.inl rfl | exact Or.inr rfl) (pe_callTy (cTuple (K := K)) (by rfl) B.tuple (by decide +kernel) (pa_cons (pe_lc (own := [("_law_k", 7), ("_law_own", 15)]) (g := (gTup K 2 (gCons (gName 7) (gCons (gName 15) gNil)))) rfl sc_l_right.nd (piEnumT (K := K) (by rfl) B.enumerate (pa_cons (pv 10) pa_nil)) (blkOk_by (N := ["_law_tin", "_law_lot_so", "_law_rows_so", "_law_bound_so", "_law_costs_so", "_law_due", "_law_told", "_law_k", "_law_things_so", "_law_picture_so", "_law_prices_so", "_law_keys_so", "_law_messages_so", "_law_whole_so", "_law_soft_so", "_law_own"]) (sc := defScope s_l_right) (by decide +kernel)) (fun _ _ _ _ _ => (pgTup (K := K) rfl (pgs_cons (pgN (i := 7) sc_l_right.nd rfl (by first | exact Or.inl rfl | exact Or.inr rfl) (by first | exact Or.inl rfl | exact Or.inr rfl)) (pgs_cons (pgN (i := 15) sc_l_right.nd rfl (by first | exact Or.inl rfl | exact Or.inr rfl) (by first | exact Or.inl rfl | exact Or.inr rfl)) pgs_nil)))) (fun _ _ _ _ _ => (pts_one (pt_cmp (pc_isN (pv 15))))) (fun _ _ _ _ _ => (pv 7))) pa_nil)) (hf := (by first | exact Or.inl rfl | exact Or.inr rfl)))
      (pss_cons (ps_setLc (i := 2) (own := [("_law_own", 15)]) (g := (gName 15)) (tt := tYes) rfl sc_l_right.nd rfl rfl (sw_true rfl rfl rfl (by decide +kernel)) (piList (K := K) (pe_callC C_l_all_rows (hr.mono (by decide)) (by rfl) (pa_cons (pe_ix (ixT (K := K)) (pv 13) pe_int (fun _ _ => rfl)) (pa_cons (pe_ix (ixT (K := K)) (pv 13) pe_int (fun _ _ => rfl)) pa_nil)))) (blkOk_by (N := ["_law_tin", "_law_lot_so", "_law_rows_so", "_law_bound_so", "_law_costs_so", "_law_due", "_law_told", "_law_k", "_law_things_so", "_law_picture_so", "_law_prices_so", "_law_keys_so", "_law_messages_so", "_law_whole_so", "_law_soft_so", "_law_own"]) (sc := defScope s_l_right) (by decide +kernel)) (fun _ _ _ _ _ => (pgN (i := 15) sc_l_right.nd rfl (by first | exact Or.inl rfl | exact Or.inr rfl) (by first | exact Or.inl rfl | exact Or.inr rfl))) (fun _ _ _ _ _ => pts_nil) (fun _ _ _ _ _ => (pe_callC C_l_parted (hr.mono (by decide)) (by rfl) (pa_cons (pv 11) (pa_cons (pv 15) pa_nil)))))
      (pss_cons (ps_setLc (i := 3) (own := [("_law_own", 15)]) (g := (gName 15)) rfl sc_l_right.nd rfl rfl (sw_true rfl rfl rfl (by decide +kernel)) (piList (K := K) (pv 2)) (blkOk_by (N := ["_law_tin", "_law_lot_so", "_law_rows_so", "_law_bound_so", "_law_costs_so", "_law_due", "_law_told", "_law_k", "_law_things_so", "_law_picture_so", "_law_prices_so", "_law_keys_so", "_law_messages_so", "_law_whole_so", "_law_soft_so", "_law_own"]) (sc := defScope s_l_right) (by decide +kernel)) (fun _ _ _ _ _ => (pgN (i := 15) sc_l_right.nd rfl (by first | exact Or.inl rfl | exact Or.inr rfl) (by first | exact Or.inl rfl | exact Or.inr rfl))) (fun _ _ _ _ _ => (pts_one (pt_val (pe_callC C_l_is_binding (hr.mono (by decide)) (by rfl) (pa_cons (pv 11) (pa_cons (pv 1) (pa_cons (pv 15) pa_nil))))))) (fun _ _ _ _ _ => (pv 15)))
      (pss_cons (ps_set (i := 4) sc_l_right.nd rfl (by first | exact Or.inl rfl | exact Or.inr rfl) (pe_callC C_l_least_costs (hr.mono (by decide)) (by rfl) (pa_cons (pv 9) (pa_cons (pv 10) (pa_cons (pv 13) pa_nil)))) (hf := (by first | exact Or.inl rfl | exact Or.inr rfl)))
      (pss_cons (ps_set (i := 5) sc_l_right.nd rfl (by first | exact Or.inl rfl | exact Or.inr rfl) (pe_cmpR op_eq (pe_callB call_len_dT (by rfl) B.len PySem.boot_len (pa_cons (pv 4) pa_nil)) (pe_callB (cLen (K := K)) (by rfl) B.len PySem.boot_len (pa_cons (pv 2) pa_nil)) (nomark _)) (hf := (by first | exact Or.inl rfl | exact Or.inr rfl)))
      (pss_cons (ps_if (PW.pt (pw_or (pt_cmpR op_ne (pv 5) (pe_cmpR (opEqD (K := K) hr.units) (pv 3) (pe_lst pa_nil) (nomark _)) (nomark _)) (pw_or1 (pt_not (pt_val (pe_callC C_l_same (hr.mono (by decide)) (by rfl) (pa_cons (pe_callC C_always_all (hr.mono (by decide)) (by rfl) (pa_cons (pv 14) (pa_cons (pv 1) pa_nil))) (pa_cons (pv 5) pa_nil)))))))) (pss_one (ps_ret pe_bl)) pss_nil)
      (pss_cons (ps_set (i := 6) sc_l_right.nd rfl (by first | exact Or.inl rfl | exact Or.inr rfl) (pe_callC C_heard2 (hr.mono (by decide)) (by rfl) (pa_cons (pe_glob (v := .ref f2) (by rfl) m2 rfl) (pa_cons (pv 11) (pa_cons (pe_callC C_l_lists (hr.mono (by decide)) (by rfl) (pa_cons (pv 1) pa_nil)) (pa_cons pe_non pa_nil))))) (hf := (by first | exact Or.inl rfl | exact Or.inr rfl)))
      (pss_cons (ps_if (PW.pt (pw_or (PW.pt (pw_and (pt_val (pv 5)) (pw_and1 (pt_not (pt_val (pe_callC C_l_same (hr.mono (by decide)) (by rfl) (pa_cons (pv 6) (pa_cons (pe_lst (pa_cons pe_str pa_nil)) pa_nil)))))))) (pw_or1 (PW.pt (pw_and (pt_not (pt_val (pv 5))) (pw_and1 (pt_not (pt_val (pe_callC C_l_is_binding (hr.mono (by decide)) (by rfl) (pa_cons (pv 11) (pa_cons (pv 1) (pa_cons (pv 6) pa_nil)))))))))))) (pss_one (ps_ret pe_bl)) pss_nil)
      (pss_cons (ps_for (g := (gName 7)) PassesOwn.never rfl (pi_range1 (by rfl) B.range (pa_cons (pe_callB (cLen (K := K)) (by rfl) B.len PySem.boot_len (pa_cons (pv 11) pa_nil)) pa_nil)) (pgN (i := 7) sc_l_right.nd rfl (by first | exact Or.inl rfl | exact Or.inr rfl) (by first | exact Or.inl rfl | exact Or.inr rfl)) (pss_cons (ps_set (i := 5) sc_l_right.nd rfl (by first | exact Or.inl rfl | exact Or.inr rfl) (pe_callC C_l_quiet_so (hr.mono (by decide)) (by rfl) (pa_cons (pv 9) (pa_cons (pv 10) (pa_cons (pv 11) (pa_cons (pv 7) pa_nil))))) (hf := (by first | exact Or.inl rfl | exact Or.inr rfl)))
      (pss_cons (ps_set (i := 6) sc_l_right.nd rfl (by first | exact Or.inl rfl | exact Or.inr rfl) (pe_callC C_heard3 (hr.mono (by decide)) (by rfl) (pa_cons (pe_glob (v := .ref f3) (by rfl) m3 rfl) (pa_cons (pv 14) (pa_cons (pv 1) (pa_cons (pv 7) pa_nil))))) (hf := (by first | exact Or.inl rfl | exact Or.inr rfl)))
      (pss_cons (ps_if (pt_not (pt_val (pe_callC C_l_same (hr.mono (by decide)) (by rfl) (pa_cons (pe_callC C_always_quiet (hr.mono (by decide)) (by rfl) (pa_cons (pv 11) (pa_cons (pv 1) (pa_cons (pv 7) pa_nil)))) (pa_cons (pv 5) pa_nil))))) (pss_one (ps_ret pe_bl)) pss_nil)
      (pss_one (ps_if (PW.pt (pw_or (PW.pt (pw_and (pt_val (pv 5)) (pw_and1 (pt_not (pt_val (pe_callC C_l_same (hr.mono (by decide)) (by rfl) (pa_cons (pv 6) (pa_cons (pe_lst (pa_cons pe_str pa_nil)) pa_nil)))))))) (pw_or1 (PW.pt (pw_and (pt_not (pt_val (pv 5))) (pw_and1 (PW.pt (pw_or (pt_not (pt_val (pe_callC C_l_is_binding (hr.mono (by decide)) (by rfl) (pa_cons (pv 11) (pa_cons (pv 1) (pa_cons (pv 6) pa_nil)))))) (pw_or1 (pt_not (pt_val (pe_callB (cAnyT (K := K) rfl) (by rfl) B.any (by decide +kernel) (pa_cons (pe_ix (ixT (K := K)) (pv 6) (pv 7) (fun _ _ => rfl)) pa_nil))))))))))))) (pss_one (ps_ret pe_bl)) pss_nil))))))
      (pss_cons (ps_set (i := 8) sc_l_right.nd rfl (by first | exact Or.inl rfl | exact Or.inr rfl) (pe_op op_cat (pe_op op_cat (pe_callC C_l_pick (hr.mono (by decide)) (by rfl) (pa_cons (pv 0) (pa_cons (pv 2) (pa_cons pe_int pa_nil)))) (pe_slice (slL (K := K)) (pv 3) po_none (po_some pe_int))) (pe_lst (pa_cons (pe_callTy (cList (K := K)) (by rfl) B.list (by decide +kernel) (pa_cons (pe_ix (ixL (K := K)) (pv 2) (pe_un un_neg pe_int) (fun _ _ => rfl)) pa_nil)) (pa_cons (pe_slice (slT (K := K)) (pe_ix (ixL (K := K)) (pv 2) (pe_un un_neg pe_int) (fun _ _ => rfl)) (po_some pe_int) po_none) (pa_cons pe_non (pa_cons (pe_op (opRepT (K := K)) (pe_tup (pa_cons (pe_tup (pa_cons pe_bl pa_nil)) pa_nil)) (pe_callB (cLen (K := K)) (by rfl) B.len PySem.boot_len (pa_cons (pv 11) pa_nil))) (pa_cons (pe_op (opRepT (K := K)) (pe_tup (pa_cons pe_str pa_nil)) (pe_callB (cLen (K := K)) (by rfl) B.len PySem.boot_len (pa_cons (pv 11) pa_nil))) (pa_cons (pe_op (opRepT (K := K)) (pe_tup (pa_cons (pe_tup (pa_cons pe_str (pa_cons (pe_lst pa_nil) pa_nil))) pa_nil)) (pe_callB (cLen (K := K)) (by rfl) B.len PySem.boot_len (pa_cons (pv 11) pa_nil))) (pa_cons pe_str pa_nil))))))))) (hf := (by first | exact Or.inl rfl | exact Or.inr rfl)))
      (pss_one (ps_ret (pe_callC C_l_same (hr.mono (by decide)) (by rfl) (pa_cons (pe_lc (own := [("_law_own", 15)]) (g := (gName 15)) (tt := tYes) rfl sc_l_right.nd (piList (K := K) (pv 8)) (blkOk_by (N := ["_law_tin", "_law_lot_so", "_law_rows_so", "_law_bound_so", "_law_costs_so", "_law_due", "_law_told", "_law_k", "_law_things_so", "_law_picture_so", "_law_prices_so", "_law_keys_so", "_law_messages_so", "_law_whole_so", "_law_soft_so", "_law_own"]) (sc := defScope s_l_right) (by decide +kernel)) (fun _ _ _ _ _ => (pgN (i := 15) sc_l_right.nd rfl (by first | exact Or.inl rfl | exact Or.inr rfl) (by first | exact Or.inl rfl | exact Or.inr rfl))) (fun _ _ _ _ _ => pts_nil) (fun _ _ _ _ _ => (pe_callC C_is_binding (hr.mono (by decide)) (by rfl) (pa_cons (pv 14) (pa_cons (pv 1) (pa_cons (pv 15) pa_nil)))))) (pa_cons (pe_lc (own := [("_law_own", 15)]) (g := (gName 15)) (tt := tYes) rfl sc_l_right.nd (piList (K := K) (pv 8)) (blkOk_by (N := ["_law_tin", "_law_lot_so", "_law_rows_so", "_law_bound_so", "_law_costs_so", "_law_due", "_law_told", "_law_k", "_law_things_so", "_law_picture_so", "_law_prices_so", "_law_keys_so", "_law_messages_so", "_law_whole_so", "_law_soft_so", "_law_own"]) (sc := defScope s_l_right) (by decide +kernel)) (fun _ _ _ _ _ => (pgN (i := 15) sc_l_right.nd rfl (by first | exact Or.inl rfl | exact Or.inr rfl) (by first | exact Or.inl rfl | exact Or.inr rfl))) (fun _ _ _ _ _ => pts_nil) (fun _ _ _ _ _ => (pe_callC C_l_is_binding (hr.mono (by decide)) (by rfl) (pa_cons (pv 11) (pa_cons (pv 1) (pa_cons (pv 15) pa_nil)))))) pa_nil))))))))))))))))), fun ds0 c0 P0 n hd hn => ?_⟩
  obtain ⟨rfl, rfl, rfl⟩ := hd
  refine sj_seq (sj_asgG (f := rightF (inB [] 16)) (xc_l_scene rfl xad_nil (by omega)) (fun d hd => by obtain ⟨p, nc, top, rs, ps, ks, ms, rfl, _⟩ := hd; exact xg_tup (xgs_cons (xgs_cons (xgs_cons (xgs_cons xgs_nil)))) rfl) (fun d hd => ?_))
  obtain ⟨p, nc, top, rs, ps, ks, ms, rfl, hk, hpic, hpr, hl, hs⟩ := hd
  have hkD : tup (keysD ks) = keysD ks ∧ TOk 6 (keysD ks) := ⟨tup_keys _, tok_keys hk⟩
  have hsoft : tup (lsts (keysD ks)) = keysD ks ∧ TOk 6 (lsts (keysD ks)) := ⟨(tok_lsts hkD.2).2.trans hkD.1, (tok_lsts hkD.2).1⟩
  have hW := inOne_all hk
  have hWm : (inOne ks).m ≤ 4 := by rw [inOne_m hk.ne]; exact hs
  have hlot : LotOk nc (lotOf ps) := lot_ok hpr.1 hk.n1
  have hlotD : tup (rowD (lotOf ps)) = rowD (lotOf ps) ∧ TOk 6 (rowD (lotOf ps)) := ⟨tup_row _, tok_row (by have := hlot.len; omega)⟩
  have hlotS : tup (lsts (rowD (lotOf ps))) = rowD (lotOf ps) ∧ TOk 6 (lsts (rowD (lotOf ps))) := ⟨(tok_lsts hlotD.2).2.trans hlotD.1, (tok_lsts hlotD.2).1⟩
  have hall : (allRows p (inOne ks).m).length ≤ 81 := by
    rw [allRows_len]
    have hp3 : p ≤ 3 := by have := hk.hp; omega
    exact Nat.le_trans (Nat.pow_le_pow_left hp3 _) (Nat.pow_le_pow_right (by omega) hWm)
  have hall0 : 0 < (allRows p (inOne ks).m).length := by
    rw [allRows_len]
    exact Nat.pow_pos (by have := hk.hp; omega)
  have S : Sc p nc (inOne ks) rs.flatten ps (lotOf ps) := sc_ok hk hpic.flat hpr.1 fun c hc => lot_mem (by rw [hpr.1]; exact hc)
  have hpart : ∀ {r : List Int}, r ∈ allRows p (inOne ks).m → (partK ks r).length ≤ 3 ∧ ∀ x ∈ partK ks r, x.length ≤ 10 := fun {r} hr => by
    obtain ⟨h1, h2⟩ := allRows_mem.mp hr
    obtain ⟨hJ, _⟩ := part_J hk h1 h2
    refine ⟨by rw [hJ.len]; omega, fun x hx => ?_⟩
    obtain ⟨_, k, hk', e⟩ := hJ.row x hx
    rw [e]
    exact (hk.all k hk').2
  have hdsm : ∀ {r : List Int}, r ∈ allRows p (inOne ks).m → DSm (rowsD (partK ks r)) := fun {r} hr => dsm_rows (by have := (hpart hr).1; omega) fun x hx => by have := (hpart hr).2 x hx; omega
  have hbn : ∀ {b : List (List Int)}, b ∈ bnds p ks (lotOf ps) → b.length ≤ 3 ∧ ∀ x ∈ b, x.length ≤ 10 := fun {b} hb => by
    rw [bnds_eq] at hb
    obtain ⟨u, hu, rfl⟩ := List.mem_map.mp hb
    obtain ⟨h1, h2, _⟩ := unm_row hk hu
    exact hpart (allRows_mem.mpr ⟨h1, h2⟩)
  have hbd : ∀ {b : List (List Int)}, b ∈ bnds p ks (lotOf ps) → DSm (rowsD b) := fun {b} hb => dsm_rows (by have := (hbn hb).1; omega) fun x hx => by have := (hbn hb).2 x hx; omega
  have hRe : ∀ r, Rch p (inOne ks).m (inOne ks).cols (canPay ps rs.flatten p) nc r → r ∈ allRows p (inOne ks).m := fun r hr => by
    have := S.rch.mp hr
    exact allRows_mem.mpr ⟨this.1, this.2.1⟩
  refine sj_seq (sj_asgGD (xd_tup (xad_cons (xc_l_stacked (xad_cons (xd_var rfl) xad_nil) hk) (xad_cons (xc_l_lists (xad_cons (xd_var rfl) xad_nil) hkD.2) xad_nil)) (by simp)) xg_tup2 ?_)
  refine sj_seq (sj_asgD (d := rowD (lotOf ps)) (xd_cb (xad_cons (xd_lcFil (js := [7, 15]) (xs := ps.zipIdx) (A := fun x => .tuple [.int (x.2 : Nat), prD x.1]) (b := fun x => isN (prD x.1)) (F := fun x => .int ((x.2 : Nat) : Int)) ((xid_enumT (xad_cons (xd_var rfl) xad_nil)).is enD_map) (by simp) (by have := hpr.1; have := hk.n1; rw [List.length_zipIdx]; omega) (fun x hx => xg_tup2) (fun x hx => (xt_val (xd_isN (xd_var rfl)))) (fun x hx hb => (xd_var rfl))) xad_nil) (rc_tupE (enc := PyData.int) (g := fun x : Option Int × Nat => ((x.2 : Nat) : Int)))) ?_)
  refine sj_seq (sj_asgD (d := .list ((allRows p (inOne ks).m).map fun r => rowsD (partK ks r))) (xd_lcMap (js := [15]) (A := rowD) (xid_list (xc_l_all_rows (p := p) (xad_cons ((xd_op (xd_var rfl) xd_int (rd_ixT rfl)).is (by rw [hW.pp])) (xad_cons (xd_op (xd_var rfl) xd_int (rd_ixT rfl)) xad_nil)) hk.hp (by omega))) (by simp) (by omega) (fun x hx => xg_name) (fun x hx => (xc_l_parted (xad_cons (xd_var rfl) (xad_cons (xd_var rfl) xad_nil)) (by have := hk.len; omega)))) ?_)
  refine sj_seq (sj_asgD (d := .list (((allRows p (inOne ks).m).filter fun r => isBind p ks (lotOf ps) (rowsD (partK ks r))).map fun r => rowsD (partK ks r))) (xd_lcFil (js := [15]) (xs := allRows p (inOne ks).m) (A := fun r => rowsD (partK ks r)) (xid_list (xd_var rfl)) (by simp) (by omega) (fun x hx => xg_name) (fun x hx => (xt_val (xc_l_is_binding (xad_cons (xd_var rfl) (xad_cons (xd_var rfl) (xad_cons (xd_var rfl) xad_nil))) hk (hdsm hx)))) (fun x hx hb => (xd_var rfl))) ?_)
  refine sj_seq (sj_asgS (xs_dic (xad_cons (xd_var rfl) (xad_cons (xd_var rfl) (xad_cons (xd_var rfl) xad_nil))) ⟨p, nc, top, rs, ps, inOne ks, rfl, hk.hp, hW, hpic, hpr, rfl⟩) fun s ⟨kvs, e, hD⟩ => ?_)
  subst e
  refine sj_seq (sj_asgD (d := .bool (bnds p ks (lotOf ps)).isEmpty) (XD.is (xd_op (xd_lenDic rfl) (xd_cb (xad_cons (xd_var rfl) xad_nil) rc_lenLE) rd_eqI) ?_) ?_)
  · have h1 := (dlen_iff hD hRe).trans (all_iff hk S)
    congr 1
    rw [Bool.eq_iff_iff, decide_eq_true_eq, List.isEmpty_iff]
    exact ⟨fun z => h1.mp (by omega), fun z => by have := h1.mpr z; omega⟩
  have hbe : (((allRows p (inOne ks).m).filter fun r => isBind p ks (lotOf ps) (rowsD (partK ks r))).map fun r => rowsD (partK ks r)).isEmpty = (bnds p ks (lotOf ps)).isEmpty := by
    rw [Bool.eq_iff_iff, List.isEmpty_iff, List.isEmpty_iff, List.map_eq_nil_iff, List.filter_eq_nil_iff, ← none_iff hk]
    exact ⟨fun z r hr => by simpa using z r hr, fun z r hr => by simpa using z r hr⟩
  refine sj_seq (sj_ifF (XT.is (xt_or (b := false) (c := false) (XT.is (xt_test (xd_op (xd_var rfl) (xd_op (xd_var rfl) (xd_lst xad_nil (by simp)) (rd_eqD (sh_list (k := 2) (sh_map fun _ _ => sh_rows _)).ok sh_nilL.ok)) rd_neB)) ?_) fun _ => XT.is (xt_not (xt_val (xc_l_same (xad_cons (xc_always_all (xad_cons (xd_var rfl) (xad_cons (xd_var rfl) xad_nil)) hk hlot hsoft hlotD) (xad_cons (xd_var rfl) xad_nil)) sok_bool sok_bool))) ?_) rfl) (sj_next ?_))
  · rw [eqv_nilL, hbe]
    simp
  · rw [same_bool]
    rfl
  refine sj_seq (sj_asgD (xc_heard2 (xad_cons (xd_var rfl) (xad_cons (xc_l_lists (xad_cons (xd_var rfl) xad_nil) hlotD.2) (xad_cons xd_non xad_nil))) hk hlot hkD hlotS) ?_)
  have hbS : ∀ b ∈ bnds p ks (lotOf ps), b.length ≤ 50000 ∧ ∀ r ∈ b, r.length ≤ 50000 := fun b hb => ⟨by have := (hbn hb).1; omega, fun r hr => by have := (hbn hb).2 r hr; omega⟩
  refine sj_seq (sj_ifF (XT.is (xt_or (xt_and (xt_val (xd_var rfl)) fun _ => (xt_not (xt_val (xc_l_same (d := paperD) (xad_cons (xd_var rfl) (xad_cons (xd_lst (xad_cons xd_str xad_nil) (by simp)) xad_nil)) (sok_told hbS) sok_paper)))) fun _ => (xt_and (xt_not (xt_val (xd_var rfl))) fun _ => (xt_not (xt_val (xc_l_is_binding (xad_cons (xd_var rfl) (xad_cons (xd_var rfl) (xad_cons (xd_var rfl) xad_nil))) hk (dsm_told fun b hb => hbd hb)))))) ?_) (sj_next ?_))
  · cases hB : bnds p ks (lotOf ps) with
    | nil =>
      show (true && !sameD 8 paperD paperD || false) = false
      rw [same_paper]
      rfl
    | cons b bs =>
      have := told_bind (rs := b) (lot := lotOf ps) hk (by rw [hB]; exact List.mem_cons_self ..)
      show (false || true && !isBind p ks (lotOf ps) (rowsD b)) = false
      rw [this]
      rfl
  refine sj_seq (sj_forT (xs := List.range ks.length) (A := fun i : Nat => PyData.int (i : Int)) (xid_rangeN (xad_cons (xd_cb (xad_cons (xd_var rfl) xad_nil) rc_lenE) xad_nil) (by omega)) (fun i δ m => m = n + 2000 ∧ ∃ s5 s6 s7, δ = [.box, .val (rowD (lotOf ps)), .val (.list ((allRows p (inOne ks).m).map fun r => rowsD (partK ks r))), .val (.list (((allRows p (inOne ks).m).filter fun r => isBind p ks (lotOf ps) (rowsD (partK ks r))).map fun r => rowsD (partK ks r))), .dic kvs, s5, s6, s7, .un, .val (picD top rs), .val (pricesD ps), .val (keysD ks), .val (rowsD ms), .val (keyD (inOne ks)), .val (lsts (keysD ks)), .un]) ⟨rfl, _, _, _, rfl⟩ (fun i x δ' m hx iv => ?_) (fun δ' m iv => ?_))
  · obtain ⟨rfl, s5, s6, s7, rfl⟩ := iv
    have hj : x < ks.length := by
      have := List.mem_of_getElem? hx
      simpa using this
    refine ⟨_, [7], xg_name, sj_seq (sj_asg (xc_l_quiet_so (p := p) (n := nc) (xad_cons (xd_var rfl) (xad_cons (xd_var rfl) (xad_cons (xd_var rfl) (xad_cons (xd_var rfl) xad_nil)))) hk hpic hpr hj (by omega)) fun d ⟨b, e, hb⟩ => ?_)⟩
    subst e
    have hfl : (restsOf p rs).length = nc := by unfold restsOf; rw [List.length_map, hpic.flat]
    have hbe : b = (loud p ks (lotOf ps) x).isEmpty := by
      have := hb.trans (quiet_iff hk S (now_J (by have := hk.hp; omega) hfl fun k hk' => (hk.all k hk').1) (now_flat hk hfl) hj)
      rw [Bool.eq_iff_iff, List.isEmpty_iff]
      exact this
    subst hbe
    have hlS : ∀ b ∈ loud p ks (lotOf ps) x, b.length ≤ 50000 ∧ ∀ r ∈ b, r.length ≤ 50000 := fun b hb => hbS b (loud_mem hb).1
    refine sj_seq (sj_asgD (xc_heard3 (xad_cons (xd_var rfl) (xad_cons (xd_var rfl) (xad_cons (xd_var rfl) xad_nil))) hk hlot hsoft hlotD hj) ?_)
    refine sj_seq (sj_ifF (XT.is (xt_not (xt_val (xc_l_same (xad_cons (xc_always_quiet (xad_cons (xd_var rfl) (xad_cons (xd_var rfl) (xad_cons (xd_var rfl) xad_nil))) hk hlot hkD hlotD hj) (xad_cons (xd_var rfl) xad_nil)) sok_bool sok_bool))) ?_) (sj_next ?_))
    · rw [same_bool]
      rfl
    refine sj_ifF (XT.is (xt_or (xt_and (xt_val (xd_var rfl)) fun _ => (xt_not (xt_val (xc_l_same (d := paperD) (xad_cons (xd_var rfl) (xad_cons (xd_lst (xad_cons xd_str xad_nil) (by simp)) xad_nil)) (sok_told hlS) sok_paper)))) fun _ => (xt_and (xt_not (xt_val (xd_var rfl))) fun hne => (xt_or (xt_not (xt_val (xc_l_is_binding (xad_cons (xd_var rfl) (xad_cons (xd_var rfl) (xad_cons (xd_var rfl) xad_nil))) hk (dsm_told fun b hb => hbd (loud_mem hb).1)))) fun _ => (xt_not (xt_val (xd_cb (xad_cons (xd_op ((xd_var rfl).is (told_ne hne)) (xd_var rfl) (rd_ixG [] ?_)) xad_nil) rc_anyT)))))) ?_) (sj_next ⟨rfl, _, _, _, rfl⟩)
    · have hb := (loud_mem (mem_head hne)).1
      rw [bnds_eq] at hb
      obtain ⟨u, hu, e⟩ := List.mem_map.mp hb
      obtain ⟨h1, h2, _⟩ := unm_row hk hu
      rw [← e, (part_J hk h1 h2).1.len]
      exact hj
    · cases hL : loud p ks (lotOf ps) x with
      | nil =>
        show (true && !sameD 8 paperD paperD || false) = false
        rw [same_paper]
        rfl
      | cons b bs =>
        have hb := loud_mem (by rw [hL]; exact List.mem_cons_self .. : b ∈ loud p ks (lotOf ps) x)
        have := told_bind (rs := b) (lot := lotOf ps) hk hb.1
        show (false || true && (!isBind p ks (lotOf ps) (rowsD b) || !((b.getD x []).any fun i => i != 0))) = false
        rw [this, hb.2]
        rfl
  · obtain ⟨rfl, s5, s6, s7, rfl⟩ := iv
    have hlast : (allRows p (inOne ks).m).getD ((allRows p (inOne ks).m).length - 1) [] ∈ allRows p (inOne ks).m := List.mem_of_getElem? (getD_some (by omega) [])
    have hT : ∀ d ∈ (allRows p (inOne ks).m).map (fun r => rowsD (partK ks r)), DSm d := fun d hd => by
      obtain ⟨r, hr, rfl⟩ := List.mem_map.mp hd
      exact hdsm hr
    have hB : ∀ d ∈ ((allRows p (inOne ks).m).filter fun r => isBind p ks (lotOf ps) (rowsD (partK ks r))).map (fun r => rowsD (partK ks r)), DSm d := fun d hd => by
      obtain ⟨r, hr, rfl⟩ := List.mem_map.mp hd
      exact hdsm (List.mem_filter.mp hr).1
    have hBl : (((allRows p (inOne ks).m).filter fun r => isBind p ks (lotOf ps) (rowsD (partK ks r))).map (fun r => rowsD (partK ks r))).length ≤ 81 := by
      rw [List.length_map]
      exact Nat.le_trans (List.length_filter_le _ _) hall
    refine sj_seq (sj_asgN (PL := fun ds => ds.length ≤ 1000 ∧ ∀ d ∈ ds, DSm d) (xn_op (XN.xb (PL := fun ds => ds.length ≤ 500 ∧ ∀ d ∈ ds, DSm d) (xn_op (xc_l_pick (k := 8) rfl (xad_cons (xd_var rfl) (xad_cons xd_int xad_nil)) (by rw [List.length_map]; omega) (by omega) (by omega)) ((XN.xd fun _ => xn_slL (xd_var rfl) xo_none (xo_some xd_int)) _) (fun d e hd he => ?_))) ((xd_lst (xad_cons (xd_cbN (xad_cons (xd_op (xd_var rfl) (xd_neg xd_int) (rd_ixLast (rs := allRows p (inOne ks).m) (enc := fun r => rowsD (partK ks r)) [] hall0)) xad_nil) rcn_listT) (xad_cons (xd_slE (enc := rowD) (xd_op (xd_var rfl) (xd_neg xd_int) (rd_ixLast (rs := allRows p (inOne ks).m) (enc := fun r => rowsD (partK ks r)) [] hall0)) (xo_some xd_int) xo_none) (xad_cons xd_non (xad_cons (xd_op (xd_tup (xad_cons (xd_tup (xad_cons xd_bl xad_nil) (by simp)) xad_nil) (by simp)) (xd_cb (xad_cons (xd_var rfl) xad_nil) rc_lenE) (rd_repT (by omega) (by omega) ⟨by simp, by simp⟩)) (xad_cons (xd_op (xd_tup (xad_cons xd_str xad_nil) (by simp)) (xd_cb (xad_cons (xd_var rfl) xad_nil) rc_lenE) (rd_repT (by omega) (by omega) ⟨by simp, by simp⟩)) (xad_cons (xd_op (xd_tup (xad_cons (xd_tup (xad_cons xd_str (xad_cons (xd_lst xad_nil (by simp)) xad_nil)) (by simp)) xad_nil) (by simp)) (xd_cb (xad_cons (xd_var rfl) xad_nil) rc_lenE) (rd_repT (by omega) (by omega) ⟨by simp, by simp⟩)) (xad_cons xd_str xad_nil))))))) (by simp)) _) (fun d e hd he => ?_)) fun ds ⟨hlen, hds⟩ => ?_)
    · obtain ⟨es, rfl, h1, h2⟩ := hd
      subst he
      have h3 := len_cut (xs := ((allRows p (inOne ks).m).filter fun r => isBind p ks (lotOf ps) (rowsD (partK ks r))).map (fun r => rowsD (partK ks r))) (lo := none) (hi := some 3)
      refine rn_catP (by omega) ⟨by rw [List.length_append]; omega, fun d hd => ?_⟩
      rcases List.mem_append.mp hd with hd | hd
      · exact hT d (h2 d hd)
      · exact hB d (mem_cut hd)
    · obtain ⟨es, rfl, h1, h2⟩ := hd
      subst he
      refine rn_catP (by simp; omega) ⟨by simp; omega, fun d hd => ?_⟩
      rcases List.mem_append.mp hd with hd | hd
      · exact h2 d hd
      · simp only [List.mem_cons, List.not_mem_nil, or_false] at hd
        rcases hd with rfl | rfl | rfl | rfl | rfl | rfl | rfl
        · exact dsm_list
        · refine dsm_rows ?_ fun r hr => ?_
          · have h3 := len_cut (xs := partK ks ((allRows p (inOne ks).m).getD ((allRows p (inOne ks).m).length - 1) [])) (lo := some 1) (hi := none)
            have := (hpart hlast).1
            omega
          · have := (hpart hlast).2 r (mem_cut hr)
            omega
        · exact fun _ e => nomatch e
        · exact dsm_rep (by omega) fun es e => by cases e; simp
        · exact dsm_rep (by omega) fun es e => nomatch e
        · exact dsm_rep (by omega) fun es e => by cases e; simp
        · exact fun _ e => nomatch e
    refine sj_freeze (i := 8) rfl (sj_retD ((xc_l_same (xad_cons (xd_lcMap (js := [15]) (xs := ds) (A := fun d => d) (F := fun d => .bool (isBind p ks (lotOf ps) d)) ((xid_list (xd_var rfl)).is (List.map_id' ds).symm) (by simp) (by omega) (fun x hx => xg_name) (fun x hx => (xc_is_binding (xad_cons (xd_var rfl) (xad_cons (xd_var rfl) (xad_cons (xd_var rfl) xad_nil))) hk hlot hsoft hlotD (hds x hx)))) (xad_cons (xd_lcMap (js := [15]) (xs := ds) (A := fun d => d) (F := fun d => .bool (isBind p ks (lotOf ps) d)) ((xid_list (xd_var rfl)).is (List.map_id' ds).symm) (by simp) (by omega) (fun x hx => xg_name) (fun x hx => (xc_l_is_binding (xad_cons (xd_var rfl) (xad_cons (xd_var rfl) (xad_cons (xd_var rfl) xad_nil))) hk (hds x hx)))) xad_nil)) (sok_boolsF (by omega)) (sok_boolsF (by omega))).is (by rw [same_boolsF])) ⟨by omega, rfl⟩)
end
end Dry

set_option Elab.async false
set_option linter.all false
set_option maxRecDepth 100000
set_option maxHeartbeats 4000000
namespace Dry
open PySem PySem.Spec PyProof.Rows L2 RZ
/-! ### a def that gives a new box -/
def SpW (K : PySem.W.Frag) (dom : List PyData → Prop) : Sp := fun vs H Q _ =>
  ∃ (ds : List PyData) (G : Hp), Ex G H ∧ RpAll K G vs ds ∧ dom ds ∧ ∀ p G' H', New G H G' H' → H p = none → G' p = none → BoxAt H' p 0 → Q (.ref p) H'
def SJW (K : PySem.W.Frag) (t : TS) (δ : List Sl) (n : Nat) : Prop :=
  ∀ bx σ G H, EnvD K bx n δ σ G H → ∀ D : Ends, (∀ n' p G' H', Rr bx n' δ σ G H G' H' → H p = none → G' p = none → BoxAt H' p 0 → D.rt (.ref p) H') → t D σ H
section
variable {K : PySem.W.Frag} {bx : Option Addr} {n n1 n2 m c : Nat} {δ δ' : List Sl} {σ : L2.St} {G H G' H' : Hp} {t u : TS} {te : TE} {ta : TA} {PL : List PyData → Prop} {P : PyData → Prop}
theorem sjw_seq (h : SJ K t δ n ⟨fun δ' n' => SJW K u δ' n', fun _ _ => False, fun _ _ => False, fun _ _ => False⟩) : SJW K (tSeq t u) δ n := fun bx σ G H En D h1 =>
  h bx σ G H En { D with nx := u D } (fun δ' n' σ' G' H' E' s j => j bx σ' G' H' E' D fun n2 p G2 H2 r hp gp hb => h1 n2 p G2 H2 (s.rr r) (by
      cases e : H p with
      | none => rfl
      | some o => exact absurd hp (s.lv p (by rw [e]; exact fun z => nomatch z))) gp hb)
    (fun _ _ _ _ _ _ _ z => z.elim) (fun _ _ _ _ _ _ _ z => z.elim) (fun _ _ _ _ _ _ _ z => z.elim)
theorem sjw_ret {x y : Int} (h : XAD K ta δ [.int x, .int y, .int 0]) (h1 : 0 ≤ x) (h2 : 0 ≤ y) (h3 : y < 2 ^ 62) : SJW K (tRet (tLst ta)) δ n := fun bx σ G H En D k =>
  xn_lst (h n) (fun ds e => by rw [e]; simp) bx σ G H En _ fun p xs ds G' H' t hp gp hH r e => by
    subst e
    cases r with
    | cons r1 r =>
      cases r with
      | cons r2 r =>
        cases r with
        | cons r3 r =>
          cases r
          cases r1
          cases r2
          cases r3
          exact k n p G' H' t.rr hp gp ⟨x, y, 0, hH, h1, h2, h3, Int.le_refl _, Int.le_refl _⟩
/-- a drawing def of a new box -/
theorem xb_box {dom : List PyData → Nat → (PyData → Prop) → Prop} {domW : List PyData → Prop} (h : XA K ta δ n n1 PL) (hw : ∀ ds, PL ds → domW ds) (hd : dom [] c P) (hc : c ≤ 2 ^ 50) :
    XB K (tCall (SpB K dom) [] E0 (tCons (tCall (SpW K domW) [] E0 ta) tNil)) δ n n1 P := fun bx σ G H En Q q =>
  h bx σ G H En _ fun vs ds G1 H1 t1 r1 p1 => by
    show SpW K domW (vs ++ []) H1 _ E0
    rw [List.append_nil]
    refine ⟨ds, G1, t1.ex, r1, hw ds p1, fun p G2 H2 nw hp gp hb => ?_⟩
    show SpB K dom ([V.ref p] ++ []) H2 Q E0
    rw [List.append_nil]
    refine ⟨p, [], [], c, P, 0, G2, rfl, gp, hb, by omega, nw.ex, .nil, hd, fun v d G3 H3 t3 r3 p3 => ?_⟩
    have E1 := En.step t1
    have live : ∀ {q : Addr} {o}, H1 q = some o → q ≠ p := fun {q o} e z => by rw [z, hp] at e; cases e
    have tt : Tr bx n1 G1 H1 G3 H3 := E1.trNew (nw.gg.trans t3.gg) t3.ex (fun q o e => t3.fr q o (fun z => live e (Option.some.inj z).symm) (nw.hh q o e)) (fun q h1 h2 => by
      have a := nw.nw q h1 h2
      exact t3.nw q (nw.hh.live h1) a)
    exact q v d G3 H3 (t1.trans tt) r3 p3
end
section
variable {P : Program} {w : World} {K : PySem.W.Frag} {mg : Str → Option Value} {base : Heap} {x : Str} {st : Stmt} {N ps : List Str} {k : Nat}
theorem funW_ok {dom : List PyData → Prop} (F : Df K mg x st) (S : FnScope N ps (defScope st)) (hl : ∀ ds, dom ds → ds.length = ps.length)
    (hb : ∀ (kV doc pm : Value) (an : Option Addr) (cdv ct : Value) (us : List Value), us.length = ps.length → bindArgs (PySem.W.fnOf x x (defArgs st) (defBody st) (defScope st) .none kV doc pm an cdv ct) ⟨us, []⟩ = pure (ps.zip us))
    (body : ∀ (f : Addr) (cdv : Value) (A : Around) (outer : List Env) (s : Shared) (H : Hp) (E : XK), Room k (A.deeper (envOfC x (defScope st) s.heap.objs.size f cdv)) →
      ∃ t, PSs (cxOf CX0 P w K mg base N x (defScope st) f cdv A outer s H E).nox (defBody st) t ∧ ∀ ds, dom ds → SJW K t (inD ds N.length) 0) :
    Call1 P w K mg base CX0 (k + 1) x (SpW K dom) := by
  obtain ⟨f, fd, F, hm⟩ := F
  refine ⟨f, fd, ps, F.ok S (fun vs H Q E h => ?_) (fun cdv A outer s H vs Q E hr h => ?_), hm, F.kp, F.bindsN hb⟩
  · obtain ⟨ds, G, _, r, hd, _⟩ := h
    rw [dpa_len r]
    exact hl ds hd
  · obtain ⟨ds, G, hx, r, hd, q⟩ := h
    obtain ⟨t, ht, hj⟩ := body f cdv A outer s H E hr
    exact ⟨t, ht.nox, hj ds hd none _ G H (envD_start hx r) _ fun n' p G' H' rr hp gp hb =>
      q p G' H' ⟨rr.gg, rr.ex, fun q o h => rr.fr q o (fun z => nomatch z) inD_own h, fun q h1 h2 => rr.nw q h1 h2 inD_own⟩ hp gp hb⟩
theorem b01 (b : Bool) : -2 ^ 64 < (if b = true then (1 : Int) else 0) ∧ (if b = true then (1 : Int) else 0) < 2 ^ 64 := by cases b <;> decide
theorem sc_l_box : FnScope ["_law_script", "_law_k", "_law_cell_so"] ["_law_script", "_law_k"] (defScope s_l_box) := ⟨rfl, rfl, rfl, by decide +kernel, rfl, by decide +kernel, by decide +kernel⟩
abbrev lv_l_box : Nat := 1
def dom_l_box : List PyData → Prop := fun ds => ∃ cs : List Int, ds = [.list (cs.map PyData.int), .int 0] ∧ cs ≠ [] ∧ cs.length ≤ 1000
abbrev sp_l_box (K : PySem.W.Frag) : Sp := SpW K dom_l_box
theorem ok_l_box (D : Df K mg "_law_box" s_l_box) (B : Bi mg) : Call1 P w K mg base CX0 lv_l_box "_law_box" (sp_l_box K) := by
  refine funW_ok (k := 0) (N := ["_law_script", "_law_k", "_law_cell_so"]) (ps := ["_law_script", "_law_k"]) D sc_l_box (fun ds hd => by obtain ⟨cs, rfl, _⟩ := hd; rfl) (fun _ _ _ _ _ _ us hl => match us, hl with | [_, _], _ => rfl) fun f cdv A outer s H E hr => ⟨_,
    (pss_cons (ps_set (i := 2) sc_l_box.nd rfl (by first | exact Or.inl rfl | exact Or.inr rfl) (pe_ifExp (pt_cmpR op_lt (pv 1) (pe_callB (cLen (K := K)) (by rfl) B.len PySem.boot_len (pa_cons (pv 0) pa_nil)) (nomark _)) (pe_ix (ixL (K := K)) (pv 0) (pv 1) (fun _ _ => rfl)) pe_int) (hf := (by first | exact Or.inl rfl | exact Or.inr rfl)))
      (pss_one (ps_ret (pe_lst (pa_cons (pe_op op_mul (pe_callB call_abs (by rfl) B.abs (by decide +kernel) (pa_cons (pv 2) pa_nil)) (pe_callTy call_int1 (by rfl) B.int (by decide +kernel) (pa_cons (pe_cmpR op_ge (pe_callB call_abs (by rfl) B.abs (by decide +kernel) (pa_cons (pv 2) pa_nil)) (pe_op op_pow pe_int pe_int) (nomark _)) pa_nil))) (pa_cons (pe_op op_add (pe_op op_add (pe_op op_mod (pe_callTy call_int1 (by rfl) B.int (by decide +kernel) (pa_cons (pv 2) pa_nil)) pe_int) (pe_op op_mul pe_int (pv 1))) pe_int) (pa_cons pe_int pa_nil))))))), fun ds hd => ?_⟩
  obtain ⟨cs, rfl, hc, hl⟩ := hd
  have c0 : 0 < cs.length := List.length_pos_iff.mpr hc
  refine sjw_seq (sj_asgD (d := .int (cs.getD 0 0)) (xd_if (b := true) (XT.is (xt_test (xd_op (xd_var rfl) (xd_cb (xad_cons (xd_var rfl) xad_nil) rc_lenLE) rd_B0)) (decide_eq_true (by omega))) (fun _ => (xd_op (xd_var rfl) (xd_var rfl) (rd_ixLG (i := 0) 0 c0))) fun z => nomatch z) ?_)
  generalize cs.getD 0 0 = c
  refine sjw_ret (xad_cons (xd_op (xd_cb (xad_cons (xd_var rfl) xad_nil) rc_abs) (xd_cb (xad_cons (xd_op (xd_cb (xad_cons (xd_var rfl) xad_nil) rc_abs) (xd_op xd_int xd_int (rd_I ⟨by decide, by decide, by decide⟩)) rd_B0) xad_nil) rc_intB) (rd_I ?_)) (xad_cons (xd_op (xd_op (xd_op (xd_cb (xad_cons (xd_var rfl) xad_nil) rc_intI) xd_int (rd_I (by decide))) (xd_op xd_int (xd_var rfl) (rd_I (.inl ⟨by decide, by decide⟩))) rd_I0) xd_int rd_I0) (xad_cons xd_int xad_nil))) ?_ ?_ ?_
  · exact .inr (b01 _)
  · split <;> split <;> omega
  · have := Int.emod_nonneg c (show (2305843009213693951 : Int) ≠ 0 by decide)
    omega
  · have := Int.emod_lt_of_pos c (show (0 : Int) < 2305843009213693951 by decide)
    omega
theorem sc_law : FnScope ["_law_script"] ["_law_script"] (defScope s_law) := ⟨rfl, rfl, rfl, by decide +kernel, rfl, by decide +kernel, by decide +kernel⟩
abbrev lv_law : Nat := 17
def dom_law : List PyData → List PyData → (PyData → Prop) → Prop := fun ds es P => ∃ ns : List Int, ds = ns.map PyData.int ∧ es = [] ∧ ns.length ≤ 1000 ∧ P = fun z => z = .bool true
abbrev sp_law (K : PySem.W.Frag) : Sp := SpC K dom_law
theorem ok_law {f : Addr} {fd : FuncData} (F : FunD K "law" "law" (defArgs s_law) (defBody s_law) (defScope s_law) [] [] f fd) (B : Bi mg) (C_l_box : Call1 P w K mg base CX0 lv_l_box "_law_box" (sp_l_box K)) (C_l_by_hand_right : Call1 P w K mg base CX0 lv_l_by_hand_right "_law_by_hand_right" (sp_l_by_hand_right K)) (C_l_cells : Call1 P w K mg base CX0 lv_l_cells "_law_cells" (sp_l_cells K)) (C_l_right : Call1 P w K mg base CX0 lv_l_right "_law_right" (sp_l_right K)) : FnOk P w K mg base CX0 lv_law f fd ["_law_script"] (sp_law K) := by
  refine fun_okC (k := 16) (N := ["_law_script"]) (ps := ["_law_script"]) F sc_law (by simp) (fun ds es P hd => by obtain ⟨ns, rfl, rfl, _⟩ := hd; rfl) fun f cdv A outer s H E hr => ⟨_,
    (pss_one (ps_ret (pe_and (pe_callC0 C_l_by_hand_right (hr.mono (by decide)) (by rfl)) (pe_one (pe_callC C_l_right (hr.mono (by decide)) (by rfl) (pa_cons (pe_callC C_l_box (hr.mono (by decide)) (by rfl) (pa_cons (pe_callC C_l_cells (hr.mono (by decide)) (by rfl) (pa_cons (pv 0) (pa_cons pe_int pa_nil))) (pa_cons pe_int pa_nil))) pa_nil)))))), fun ds es P hd => ?_⟩
  obtain ⟨ns, rfl, rfl, hl, rfl⟩ := hd
  refine sj_retD (xd_and (b := true) (c := true) (xc_l_by_hand_right xad_nil) fun _ => fun n => xb_box (c := 2008) (PL := fun ds => ∃ cs : List Int, cs ≠ [] ∧ cs.length ≤ 1000 ∧ ds = [.list (cs.map PyData.int), .int 0]) ?_ ?_ ⟨rfl, rfl, rfl⟩ (by decide)) rfl
  · exact fun bx σ G H En Q q => xa_cons (xc_l_cells (i := 0) (ns := ns) rfl (xad_cons xd_int xad_nil) hl) (xa_cons (xd_int (i := 0) n) xa_nil) bx σ G H En Q fun vs ds G' H' t r ⟨d, es, e1, ⟨cs, h1, h2, e2⟩, d2, es2, e3, e4, e5⟩ => q vs ds G' H' t r ⟨cs, h1, h2, by rw [e1, e2, e3, e4, e5]⟩
  · rintro ds ⟨cs, h1, h2, rfl⟩
    exact ⟨cs, rfl, h1, h2⟩
theorem rp_ints {G : Hp} : ∀ ns : List Int, RpAll K G (ns.map V.int) (ns.map PyData.int)
  | [] => .nil
  | n :: ns => .cons (.int n) (rp_ints ns)
/-- the law of a script's list -/
theorem law_of_list {H : Hp} {a : Addr} {ns : List Int} {Q : VK} {E : XK} (hl : ns.length ≤ 1000) (hs : SqL K H a (ns.map V.int)) (q : ∀ H', Q (.bl true) H') : sp_law K [.ref a] H Q E := by
  refine ⟨a, _, [], ns.map PyData.int, [], _, H, rfl, Ex.refl _, hs, ?_, .nil, ⟨ns, rfl, rfl, hl, rfl⟩, fun v d G' H' _ r e => ?_⟩
  · exact rp_ints ns
  · rw [e] at r
    cases r
    exact q H'
end
end Dry

set_option Elab.async false
set_option linter.all false
set_option maxRecDepth 100000
set_option maxHeartbeats 0
namespace Dry
open PySem PySem.Spec PyProof.Rows L2
theorem np_ok {K : PySem.W.Frag} {h : Heap} {mg : Str → Option Value} (X : K.In h) (G : h.Ns mainGlobals mg) (c : He.SaysD fa fn K) : NpOk K mg (He.ga K "NoPaper") := by
  have e := He.exc_ok (c.fact 86 (f := .exc "NoPaper") rfl)
  exact ⟨He.glo_ok X G (c.fact 85 (f := .glo "NoPaper") rfl), e.1, e.2.1, e.2.2.1, e.2.2.2, He.exm_ok (c.fact 87 (f := .exm "NoPaper" "NoPaper" true) rfl)⟩
theorem bi_ok {K : PySem.W.Frag} {h : Heap} {mg : Str → Option Value} (X : K.In h) (G : h.Ns mainGlobals mg) (c : He.SaysD fa fn K) : Bi mg :=
  ⟨He.free_ok X G (c.fact 96 (f := .free "len") rfl), He.free_ok X G (c.fact 90 (f := .free "all") rfl), He.free_ok X G (c.fact 91 (f := .free "any") rfl), He.free_ok X G (c.fact 104 (f := .free "zip") rfl), He.free_ok X G (c.fact 99 (f := .free "range") rfl), He.free_ok X G (c.fact 93 (f := .free "enumerate") rfl), He.free_ok X G (c.fact 103 (f := .free "tuple") rfl), He.free_ok X G (c.fact 97 (f := .free "list") rfl), He.free_ok X G (c.fact 94 (f := .free "int") rfl), He.free_ok X G (c.fact 92 (f := .free "bool") rfl), He.free_ok X G (c.fact 101 (f := .free "str") rfl), He.free_ok X G (c.fact 102 (f := .free "sum") rfl), He.free_ok X G (c.fact 98 (f := .free "min") rfl), He.free_ok X G (c.fact 89 (f := .free "abs") rfl), He.free_ok X G (c.fact 100 (f := .free "sorted") rfl), He.free_ok X G (c.fact 95 (f := .free "isinstance") rfl)⟩
theorem pr_ok {K : PySem.W.Frag} {h : Heap} {mg : Str → Option Value} (X : K.In h) (G : h.Ns mainGlobals mg) (c : He.SaysD fa fn K) (e : exB K = true) : PrOk K mg (He.ga K "PRIMES") := ⟨He.glo_ok X G (c.fact 84 (f := .glo "PRIMES") rfl), fun H => He.tupB_ok e H⟩
theorem df_tupled {K : PySem.W.Frag} {h : Heap} {mg : Str → Option Value} (X : K.In h) (G : h.Ns mainGlobals mg) (c : He.SaysD fa fn K) : Df K mg "tupled" s_tupled := by
  obtain ⟨fd, F⟩ := c.def_ 0 (d := d_tupled) rfl
  exact ⟨_, fd, F, He.glo_ok X G (c.fact 0 (f := .glo "tupled") rfl)⟩
theorem df_is_number {K : PySem.W.Frag} {h : Heap} {mg : Str → Option Value} (X : K.In h) (G : h.Ns mainGlobals mg) (c : He.SaysD fa fn K) : Df K mg "is_number" s_is_number := by
  obtain ⟨fd, F⟩ := c.def_ 1 (d := d_is_number) rfl
  exact ⟨_, fd, F, He.glo_ok X G (c.fact 1 (f := .glo "is_number") rfl)⟩
theorem df_is_count {K : PySem.W.Frag} {h : Heap} {mg : Str → Option Value} (X : K.In h) (G : h.Ns mainGlobals mg) (c : He.SaysD fa fn K) : Df K mg "is_count" s_is_count := by
  obtain ⟨fd, F⟩ := c.def_ 2 (d := d_is_count) rfl
  exact ⟨_, fd, F, He.glo_ok X G (c.fact 2 (f := .glo "is_count") rfl)⟩
theorem df_is_below {K : PySem.W.Frag} {h : Heap} {mg : Str → Option Value} (X : K.In h) (G : h.Ns mainGlobals mg) (c : He.SaysD fa fn K) : Df K mg "is_below" s_is_below := by
  obtain ⟨fd, F⟩ := c.def_ 3 (d := d_is_below) rfl
  exact ⟨_, fd, F, He.glo_ok X G (c.fact 3 (f := .glo "is_below") rfl)⟩
theorem df_is_tuple_of {K : PySem.W.Frag} {h : Heap} {mg : Str → Option Value} (X : K.In h) (G : h.Ns mainGlobals mg) (c : He.SaysD fa fn K) : Df K mg "is_tuple_of" s_is_tuple_of := by
  obtain ⟨fd, F⟩ := c.def_ 4 (d := d_is_tuple_of) rfl
  exact ⟨_, fd, F, He.glo_ok X G (c.fact 4 (f := .glo "is_tuple_of") rfl)⟩
theorem df_ascends {K : PySem.W.Frag} {h : Heap} {mg : Str → Option Value} (X : K.In h) (G : h.Ns mainGlobals mg) (c : He.SaysD fa fn K) : Df K mg "ascends" s_ascends := by
  obtain ⟨fd, F⟩ := c.def_ 5 (d := d_ascends) rfl
  exact ⟨_, fd, F, He.glo_ok X G (c.fact 5 (f := .glo "ascends") rfl)⟩
theorem df_is_number_set {K : PySem.W.Frag} {h : Heap} {mg : Str → Option Value} (X : K.In h) (G : h.Ns mainGlobals mg) (c : He.SaysD fa fn K) : Df K mg "is_number_set" s_is_number_set := by
  obtain ⟨fd, F⟩ := c.def_ 6 (d := d_is_number_set) rfl
  exact ⟨_, fd, F, He.glo_ok X G (c.fact 6 (f := .glo "is_number_set") rfl)⟩
theorem df_is_prime {K : PySem.W.Frag} {h : Heap} {mg : Str → Option Value} (X : K.In h) (G : h.Ns mainGlobals mg) (c : He.SaysD fa fn K) : Df K mg "is_prime" s_is_prime := by
  obtain ⟨fd, F⟩ := c.def_ 7 (d := d_is_prime) rfl
  exact ⟨_, fd, F, He.glo_ok X G (c.fact 7 (f := .glo "is_prime") rfl)⟩
theorem df_is_row {K : PySem.W.Frag} {h : Heap} {mg : Str → Option Value} (X : K.In h) (G : h.Ns mainGlobals mg) (c : He.SaysD fa fn K) : Df K mg "is_row" s_is_row := by
  obtain ⟨fd, F⟩ := c.def_ 8 (d := d_is_row) rfl
  exact ⟨_, fd, F, He.glo_ok X G (c.fact 8 (f := .glo "is_row") rfl)⟩
theorem df_inverse_digit {K : PySem.W.Frag} {h : Heap} {mg : Str → Option Value} (X : K.In h) (G : h.Ns mainGlobals mg) (c : He.SaysD fa fn K) : Df K mg "inverse_digit" s_inverse_digit := by
  obtain ⟨fd, F⟩ := c.def_ 9 (d := d_inverse_digit) rfl
  exact ⟨_, fd, F, He.glo_ok X G (c.fact 9 (f := .glo "inverse_digit") rfl)⟩
theorem df_unit_row {K : PySem.W.Frag} {h : Heap} {mg : Str → Option Value} (X : K.In h) (G : h.Ns mainGlobals mg) (c : He.SaysD fa fn K) : Df K mg "unit_row" s_unit_row := by
  obtain ⟨fd, F⟩ := c.def_ 10 (d := d_unit_row) rfl
  exact ⟨_, fd, F, He.glo_ok X G (c.fact 10 (f := .glo "unit_row") rfl)⟩
theorem df_fit_lengths {K : PySem.W.Frag} {h : Heap} {mg : Str → Option Value} (X : K.In h) (G : h.Ns mainGlobals mg) (c : He.SaysD fa fn K) : Df K mg "fit_lengths" s_fit_lengths := by
  obtain ⟨fd, F⟩ := c.def_ 11 (d := d_fit_lengths) rfl
  exact ⟨_, fd, F, He.glo_ok X G (c.fact 11 (f := .glo "fit_lengths") rfl)⟩
theorem df_row_less {K : PySem.W.Frag} {h : Heap} {mg : Str → Option Value} (X : K.In h) (G : h.Ns mainGlobals mg) (c : He.SaysD fa fn K) : Df K mg "row_less" s_row_less := by
  obtain ⟨fd, F⟩ := c.def_ 12 (d := d_row_less) rfl
  exact ⟨_, fd, F, He.glo_ok X G (c.fact 12 (f := .glo "row_less") rfl)⟩
theorem df_row_times {K : PySem.W.Frag} {h : Heap} {mg : Str → Option Value} (X : K.In h) (G : h.Ns mainGlobals mg) (c : He.SaysD fa fn K) : Df K mg "row_times" s_row_times := by
  obtain ⟨fd, F⟩ := c.def_ 13 (d := d_row_times) rfl
  exact ⟨_, fd, F, He.glo_ok X G (c.fact 13 (f := .glo "row_times") rfl)⟩
theorem df_row_product {K : PySem.W.Frag} {h : Heap} {mg : Str → Option Value} (X : K.In h) (G : h.Ns mainGlobals mg) (c : He.SaysD fa fn K) : Df K mg "row_product" s_row_product := by
  obtain ⟨fd, F⟩ := c.def_ 14 (d := d_row_product) rfl
  exact ⟨_, fd, F, He.glo_ok X G (c.fact 14 (f := .glo "row_product") rfl)⟩
theorem df_marked_places {K : PySem.W.Frag} {h : Heap} {mg : Str → Option Value} (X : K.In h) (G : h.Ns mainGlobals mg) (c : He.SaysD fa fn K) : Df K mg "marked_places" s_marked_places := by
  obtain ⟨fd, F⟩ := c.def_ 15 (d := d_marked_places) rfl
  exact ⟨_, fd, F, He.glo_ok X G (c.fact 15 (f := .glo "marked_places") rfl)⟩
theorem df_led_row {K : PySem.W.Frag} {h : Heap} {mg : Str → Option Value} (X : K.In h) (G : h.Ns mainGlobals mg) (c : He.SaysD fa fn K) : Df K mg "led_row" s_led_row := by
  obtain ⟨fd, F⟩ := c.def_ 16 (d := d_led_row) rfl
  exact ⟨_, fd, F, He.glo_ok X G (c.fact 16 (f := .glo "led_row") rfl)⟩
theorem df_fit_rows {K : PySem.W.Frag} {h : Heap} {mg : Str → Option Value} (X : K.In h) (G : h.Ns mainGlobals mg) (c : He.SaysD fa fn K) : Df K mg "fit_rows" s_fit_rows := by
  obtain ⟨fd, F⟩ := c.def_ 17 (d := d_fit_rows) rfl
  exact ⟨_, fd, F, He.glo_ok X G (c.fact 17 (f := .glo "fit_rows") rfl)⟩
theorem df_place_led {K : PySem.W.Frag} {h : Heap} {mg : Str → Option Value} (X : K.In h) (G : h.Ns mainGlobals mg) (c : He.SaysD fa fn K) : Df K mg "place_led" s_place_led := by
  obtain ⟨fd, F⟩ := c.def_ 18 (d := d_place_led) rfl
  exact ⟨_, fd, F, He.glo_ok X G (c.fact 18 (f := .glo "place_led") rfl)⟩
theorem df_less_at {K : PySem.W.Frag} {h : Heap} {mg : Str → Option Value} (X : K.In h) (G : h.Ns mainGlobals mg) (c : He.SaysD fa fn K) : Df K mg "less_at" s_less_at := by
  obtain ⟨fd, F⟩ := c.def_ 19 (d := d_less_at) rfl
  exact ⟨_, fd, F, He.glo_ok X G (c.fact 19 (f := .glo "less_at") rfl)⟩
theorem df_with_row {K : PySem.W.Frag} {h : Heap} {mg : Str → Option Value} (X : K.In h) (G : h.Ns mainGlobals mg) (c : He.SaysD fa fn K) : Df K mg "with_row" s_with_row := by
  obtain ⟨fd, F⟩ := c.def_ 20 (d := d_with_row) rfl
  exact ⟨_, fd, F, He.glo_ok X G (c.fact 20 (f := .glo "with_row") rfl)⟩
theorem df_leads_of {K : PySem.W.Frag} {h : Heap} {mg : Str → Option Value} (X : K.In h) (G : h.Ns mainGlobals mg) (c : He.SaysD fa fn K) : Df K mg "leads_of" s_leads_of := by
  obtain ⟨fd, F⟩ := c.def_ 21 (d := d_leads_of) rfl
  exact ⟨_, fd, F, He.glo_ok X G (c.fact 21 (f := .glo "leads_of") rfl)⟩
theorem df_unmarked_rows {K : PySem.W.Frag} {h : Heap} {mg : Str → Option Value} (X : K.In h) (G : h.Ns mainGlobals mg) (c : He.SaysD fa fn K) : Df K mg "unmarked_rows" s_unmarked_rows := by
  obtain ⟨fd, F⟩ := c.def_ 22 (d := d_unmarked_rows) rfl
  exact ⟨_, fd, F, He.glo_ok X G (c.fact 22 (f := .glo "unmarked_rows") rfl)⟩
theorem df_are_rows_of {K : PySem.W.Frag} {h : Heap} {mg : Str → Option Value} (X : K.In h) (G : h.Ns mainGlobals mg) (c : He.SaysD fa fn K) : Df K mg "are_rows_of" s_are_rows_of := by
  obtain ⟨fd, F⟩ := c.def_ 23 (d := d_are_rows_of) rfl
  exact ⟨_, fd, F, He.glo_ok X G (c.fact 23 (f := .glo "are_rows_of") rfl)⟩
theorem df_is_key {K : PySem.W.Frag} {h : Heap} {mg : Str → Option Value} (X : K.In h) (G : h.Ns mainGlobals mg) (c : He.SaysD fa fn K) : Df K mg "is_key" s_is_key := by
  obtain ⟨fd, F⟩ := c.def_ 24 (d := d_is_key) rfl
  exact ⟨_, fd, F, He.glo_ok X G (c.fact 24 (f := .glo "is_key") rfl)⟩
theorem df_is_message {K : PySem.W.Frag} {h : Heap} {mg : Str → Option Value} (X : K.In h) (G : h.Ns mainGlobals mg) (c : He.SaysD fa fn K) : Df K mg "is_message" s_is_message := by
  obtain ⟨fd, F⟩ := c.def_ 25 (d := d_is_message) rfl
  exact ⟨_, fd, F, He.glo_ok X G (c.fact 25 (f := .glo "is_message") rfl)⟩
theorem df_sure_like {K : PySem.W.Frag} {h : Heap} {mg : Str → Option Value} (X : K.In h) (G : h.Ns mainGlobals mg) (c : He.SaysD fa fn K) : Df K mg "sure_like" s_sure_like := by
  obtain ⟨fd, F⟩ := c.def_ 26 (d := d_sure_like) rfl
  exact ⟨_, fd, F, He.glo_ok X G (c.fact 26 (f := .glo "sure_like") rfl)⟩
theorem df_sure_kin {K : PySem.W.Frag} {h : Heap} {mg : Str → Option Value} (X : K.In h) (G : h.Ns mainGlobals mg) (c : He.SaysD fa fn K) : Df K mg "sure_kin" s_sure_kin := by
  obtain ⟨fd, F⟩ := c.def_ 27 (d := d_sure_kin) rfl
  exact ⟨_, fd, F, He.glo_ok X G (c.fact 27 (f := .glo "sure_kin") rfl)⟩
theorem df_stacked {K : PySem.W.Frag} {h : Heap} {mg : Str → Option Value} (X : K.In h) (G : h.Ns mainGlobals mg) (c : He.SaysD fa fn K) : Df K mg "stacked" s_stacked := by
  obtain ⟨fd, F⟩ := c.def_ 28 (d := d_stacked) rfl
  exact ⟨_, fd, F, He.glo_ok X G (c.fact 28 (f := .glo "stacked") rfl)⟩
theorem df_sure_keys {K : PySem.W.Frag} {h : Heap} {mg : Str → Option Value} (X : K.In h) (G : h.Ns mainGlobals mg) (c : He.SaysD fa fn K) : Df K mg "sure_keys" s_sure_keys := by
  obtain ⟨fd, F⟩ := c.def_ 29 (d := d_sure_keys) rfl
  exact ⟨_, fd, F, He.glo_ok X G (c.fact 29 (f := .glo "sure_keys") rfl)⟩
theorem df_lot_of_keys {K : PySem.W.Frag} {h : Heap} {mg : Str → Option Value} (X : K.In h) (G : h.Ns mainGlobals mg) (c : He.SaysD fa fn K) : Df K mg "lot_of_keys" s_lot_of_keys := by
  obtain ⟨fd, F⟩ := c.def_ 30 (d := d_lot_of_keys) rfl
  exact ⟨_, fd, F, He.glo_ok X G (c.fact 30 (f := .glo "lot_of_keys") rfl)⟩
theorem df_in_one {K : PySem.W.Frag} {h : Heap} {mg : Str → Option Value} (X : K.In h) (G : h.Ns mainGlobals mg) (c : He.SaysD fa fn K) : Df K mg "in_one" s_in_one := by
  obtain ⟨fd, F⟩ := c.def_ 31 (d := d_in_one) rfl
  exact ⟨_, fd, F, He.glo_ok X G (c.fact 31 (f := .glo "in_one") rfl)⟩
theorem df_one_row {K : PySem.W.Frag} {h : Heap} {mg : Str → Option Value} (X : K.In h) (G : h.Ns mainGlobals mg) (c : He.SaysD fa fn K) : Df K mg "one_row" s_one_row := by
  obtain ⟨fd, F⟩ := c.def_ 32 (d := d_one_row) rfl
  exact ⟨_, fd, F, He.glo_ok X G (c.fact 32 (f := .glo "one_row") rfl)⟩
theorem df_parted {K : PySem.W.Frag} {h : Heap} {mg : Str → Option Value} (X : K.In h) (G : h.Ns mainGlobals mg) (c : He.SaysD fa fn K) : Df K mg "parted" s_parted := by
  obtain ⟨fd, F⟩ := c.def_ 33 (d := d_parted) rfl
  exact ⟨_, fd, F, He.glo_ok X G (c.fact 33 (f := .glo "parted") rfl)⟩
theorem df_is_joint_row {K : PySem.W.Frag} {h : Heap} {mg : Str → Option Value} (X : K.In h) (G : h.Ns mainGlobals mg) (c : He.SaysD fa fn K) : Df K mg "is_joint_row" s_is_joint_row := by
  obtain ⟨fd, F⟩ := c.def_ 34 (d := d_is_joint_row) rfl
  exact ⟨_, fd, F, He.glo_ok X G (c.fact 34 (f := .glo "is_joint_row") rfl)⟩
theorem df_columns_beside {K : PySem.W.Frag} {h : Heap} {mg : Str → Option Value} (X : K.In h) (G : h.Ns mainGlobals mg) (c : He.SaysD fa fn K) : Df K mg "columns_beside" s_columns_beside := by
  obtain ⟨fd, F⟩ := c.def_ 35 (d := d_columns_beside) rfl
  exact ⟨_, fd, F, He.glo_ok X G (c.fact 35 (f := .glo "columns_beside") rfl)⟩
theorem df_marks_none {K : PySem.W.Frag} {h : Heap} {mg : Str → Option Value} (X : K.In h) (G : h.Ns mainGlobals mg) (c : He.SaysD fa fn K) : Df K mg "marks_none" s_marks_none := by
  obtain ⟨fd, F⟩ := c.def_ 36 (d := d_marks_none) rfl
  exact ⟨_, fd, F, He.glo_ok X G (c.fact 36 (f := .glo "marks_none") rfl)⟩
theorem df_bindings_of {K : PySem.W.Frag} {h : Heap} {mg : Str → Option Value} (X : K.In h) (G : h.Ns mainGlobals mg) (c : He.SaysD fa fn K) : Df K mg "bindings_of" s_bindings_of := by
  obtain ⟨fd, F⟩ := c.def_ 37 (d := d_bindings_of) rfl
  exact ⟨_, fd, F, He.glo_ok X G (c.fact 37 (f := .glo "bindings_of") rfl)⟩
theorem df_binding {K : PySem.W.Frag} {h : Heap} {mg : Str → Option Value} (X : K.In h) (G : h.Ns mainGlobals mg) (c : He.SaysD fa fn K) : Df K mg "binding" s_binding := by
  obtain ⟨fd, F⟩ := c.def_ 38 (d := d_binding) rfl
  exact ⟨_, fd, F, He.glo_ok X G (c.fact 38 (f := .glo "binding") rfl)⟩
theorem df_is_binding {K : PySem.W.Frag} {h : Heap} {mg : Str → Option Value} (X : K.In h) (G : h.Ns mainGlobals mg) (c : He.SaysD fa fn K) : Df K mg "is_binding" s_is_binding := by
  obtain ⟨fd, F⟩ := c.def_ 39 (d := d_is_binding) rfl
  exact ⟨_, fd, F, He.glo_ok X G (c.fact 39 (f := .glo "is_binding") rfl)⟩
theorem df_always_all {K : PySem.W.Frag} {h : Heap} {mg : Str → Option Value} (X : K.In h) (G : h.Ns mainGlobals mg) (c : He.SaysD fa fn K) : Df K mg "always_all" s_always_all := by
  obtain ⟨fd, F⟩ := c.def_ 40 (d := d_always_all) rfl
  exact ⟨_, fd, F, He.glo_ok X G (c.fact 40 (f := .glo "always_all") rfl)⟩
theorem df_loud_in {K : PySem.W.Frag} {h : Heap} {mg : Str → Option Value} (X : K.In h) (G : h.Ns mainGlobals mg) (c : He.SaysD fa fn K) : Df K mg "loud_in" s_loud_in := by
  obtain ⟨fd, F⟩ := c.def_ 41 (d := d_loud_in) rfl
  exact ⟨_, fd, F, He.glo_ok X G (c.fact 41 (f := .glo "loud_in") rfl)⟩
theorem df_always_quiet {K : PySem.W.Frag} {h : Heap} {mg : Str → Option Value} (X : K.In h) (G : h.Ns mainGlobals mg) (c : He.SaysD fa fn K) : Df K mg "always_quiet" s_always_quiet := by
  obtain ⟨fd, F⟩ := c.def_ 42 (d := d_always_quiet) rfl
  exact ⟨_, fd, F, He.glo_ok X G (c.fact 42 (f := .glo "always_quiet") rfl)⟩
theorem df_loud_binding {K : PySem.W.Frag} {h : Heap} {mg : Str → Option Value} (X : K.In h) (G : h.Ns mainGlobals mg) (c : He.SaysD fa fn K) : Df K mg "loud_binding" s_loud_binding := by
  obtain ⟨fd, F⟩ := c.def_ 43 (d := d_loud_binding) rfl
  exact ⟨_, fd, F, He.glo_ok X G (c.fact 43 (f := .glo "loud_binding") rfl)⟩
theorem df_l_box {K : PySem.W.Frag} {h : Heap} {mg : Str → Option Value} (X : K.In h) (G : h.Ns mainGlobals mg) (c : He.SaysD fa fn K) : Df K mg "_law_box" s_l_box := by
  obtain ⟨fd, F⟩ := c.def_ 44 (d := d_l_box) rfl
  exact ⟨_, fd, F, He.glo_ok X G (c.fact 44 (f := .glo "_law_box") rfl)⟩
theorem df_l_take {K : PySem.W.Frag} {h : Heap} {mg : Str → Option Value} (X : K.In h) (G : h.Ns mainGlobals mg) (c : He.SaysD fa fn K) : Df K mg "_law_take" s_l_take := by
  obtain ⟨fd, F⟩ := c.def_ 45 (d := d_l_take) rfl
  exact ⟨_, fd, F, He.glo_ok X G (c.fact 45 (f := .glo "_law_take") rfl)⟩
theorem df_l_cells {K : PySem.W.Frag} {h : Heap} {mg : Str → Option Value} (X : K.In h) (G : h.Ns mainGlobals mg) (c : He.SaysD fa fn K) : Df K mg "_law_cells" s_l_cells := by
  obtain ⟨fd, F⟩ := c.def_ 46 (d := d_l_cells) rfl
  exact ⟨_, fd, F, He.glo_ok X G (c.fact 46 (f := .glo "_law_cells") rfl)⟩
theorem df_l_of {K : PySem.W.Frag} {h : Heap} {mg : Str → Option Value} (X : K.In h) (G : h.Ns mainGlobals mg) (c : He.SaysD fa fn K) : Df K mg "_law_of" s_l_of := by
  obtain ⟨fd, F⟩ := c.def_ 47 (d := d_l_of) rfl
  exact ⟨_, fd, F, He.glo_ok X G (c.fact 47 (f := .glo "_law_of") rfl)⟩
theorem df_l_pick {K : PySem.W.Frag} {h : Heap} {mg : Str → Option Value} (X : K.In h) (G : h.Ns mainGlobals mg) (c : He.SaysD fa fn K) : Df K mg "_law_pick" s_l_pick := by
  obtain ⟨fd, F⟩ := c.def_ 48 (d := d_l_pick) rfl
  exact ⟨_, fd, F, He.glo_ok X G (c.fact 48 (f := .glo "_law_pick") rfl)⟩
theorem df_l_lists {K : PySem.W.Frag} {h : Heap} {mg : Str → Option Value} (X : K.In h) (G : h.Ns mainGlobals mg) (c : He.SaysD fa fn K) : Df K mg "_law_lists" s_l_lists := by
  obtain ⟨fd, F⟩ := c.def_ 49 (d := d_l_lists) rfl
  exact ⟨_, fd, F, He.glo_ok X G (c.fact 49 (f := .glo "_law_lists") rfl)⟩
theorem df_l_same {K : PySem.W.Frag} {h : Heap} {mg : Str → Option Value} (X : K.In h) (G : h.Ns mainGlobals mg) (c : He.SaysD fa fn K) : Df K mg "_law_same" s_l_same := by
  obtain ⟨fd, F⟩ := c.def_ 50 (d := d_l_same) rfl
  exact ⟨_, fd, F, He.glo_ok X G (c.fact 50 (f := .glo "_law_same") rfl)⟩
theorem df_l_is_number {K : PySem.W.Frag} {h : Heap} {mg : Str → Option Value} (X : K.In h) (G : h.Ns mainGlobals mg) (c : He.SaysD fa fn K) : Df K mg "_law_is_number" s_l_is_number := by
  obtain ⟨fd, F⟩ := c.def_ 51 (d := d_l_is_number) rfl
  exact ⟨_, fd, F, He.glo_ok X G (c.fact 51 (f := .glo "_law_is_number") rfl)⟩
theorem df_l_put {K : PySem.W.Frag} {h : Heap} {mg : Str → Option Value} (X : K.In h) (G : h.Ns mainGlobals mg) (c : He.SaysD fa fn K) : Df K mg "_law_put" s_l_put := by
  obtain ⟨fd, F⟩ := c.def_ 52 (d := d_l_put) rfl
  exact ⟨_, fd, F, He.glo_ok X G (c.fact 52 (f := .glo "_law_put") rfl)⟩
theorem df_l_greys {K : PySem.W.Frag} {h : Heap} {mg : Str → Option Value} (X : K.In h) (G : h.Ns mainGlobals mg) (c : He.SaysD fa fn K) : Df K mg "_law_greys" s_l_greys := by
  obtain ⟨fd, F⟩ := c.def_ 53 (d := d_l_greys) rfl
  exact ⟨_, fd, F, He.glo_ok X G (c.fact 53 (f := .glo "_law_greys") rfl)⟩
theorem df_l_shaped {K : PySem.W.Frag} {h : Heap} {mg : Str → Option Value} (X : K.In h) (G : h.Ns mainGlobals mg) (c : He.SaysD fa fn K) : Df K mg "_law_shaped" s_l_shaped := by
  obtain ⟨fd, F⟩ := c.def_ 54 (d := d_l_shaped) rfl
  exact ⟨_, fd, F, He.glo_ok X G (c.fact 54 (f := .glo "_law_shaped") rfl)⟩
theorem df_l_rests {K : PySem.W.Frag} {h : Heap} {mg : Str → Option Value} (X : K.In h) (G : h.Ns mainGlobals mg) (c : He.SaysD fa fn K) : Df K mg "_law_rests" s_l_rests := by
  obtain ⟨fd, F⟩ := c.def_ 55 (d := d_l_rests) rfl
  exact ⟨_, fd, F, He.glo_ok X G (c.fact 55 (f := .glo "_law_rests") rfl)⟩
theorem df_l_row_plus {K : PySem.W.Frag} {h : Heap} {mg : Str → Option Value} (X : K.In h) (G : h.Ns mainGlobals mg) (c : He.SaysD fa fn K) : Df K mg "_law_row_plus" s_l_row_plus := by
  obtain ⟨fd, F⟩ := c.def_ 56 (d := d_l_row_plus) rfl
  exact ⟨_, fd, F, He.glo_ok X G (c.fact 56 (f := .glo "_law_row_plus") rfl)⟩
theorem df_l_row_times {K : PySem.W.Frag} {h : Heap} {mg : Str → Option Value} (X : K.In h) (G : h.Ns mainGlobals mg) (c : He.SaysD fa fn K) : Df K mg "_law_row_times" s_l_row_times := by
  obtain ⟨fd, F⟩ := c.def_ 57 (d := d_l_row_times) rfl
  exact ⟨_, fd, F, He.glo_ok X G (c.fact 57 (f := .glo "_law_row_times") rfl)⟩
theorem df_l_product {K : PySem.W.Frag} {h : Heap} {mg : Str → Option Value} (X : K.In h) (G : h.Ns mainGlobals mg) (c : He.SaysD fa fn K) : Df K mg "_law_product" s_l_product := by
  obtain ⟨fd, F⟩ := c.def_ 58 (d := d_l_product) rfl
  exact ⟨_, fd, F, He.glo_ok X G (c.fact 58 (f := .glo "_law_product") rfl)⟩
theorem df_l_all_rows {K : PySem.W.Frag} {h : Heap} {mg : Str → Option Value} (X : K.In h) (G : h.Ns mainGlobals mg) (c : He.SaysD fa fn K) : Df K mg "_law_all_rows" s_l_all_rows := by
  obtain ⟨fd, F⟩ := c.def_ 59 (d := d_l_all_rows) rfl
  exact ⟨_, fd, F, He.glo_ok X G (c.fact 59 (f := .glo "_law_all_rows") rfl)⟩
theorem df_l_read {K : PySem.W.Frag} {h : Heap} {mg : Str → Option Value} (X : K.In h) (G : h.Ns mainGlobals mg) (c : He.SaysD fa fn K) : Df K mg "_law_read" s_l_read := by
  obtain ⟨fd, F⟩ := c.def_ 60 (d := d_l_read) rfl
  exact ⟨_, fd, F, He.glo_ok X G (c.fact 60 (f := .glo "_law_read") rfl)⟩
theorem df_l_reading {K : PySem.W.Frag} {h : Heap} {mg : Str → Option Value} (X : K.In h) (G : h.Ns mainGlobals mg) (c : He.SaysD fa fn K) : Df K mg "_law_reading" s_l_reading := by
  obtain ⟨fd, F⟩ := c.def_ 61 (d := d_l_reading) rfl
  exact ⟨_, fd, F, He.glo_ok X G (c.fact 61 (f := .glo "_law_reading") rfl)⟩
theorem df_l_grey_for {K : PySem.W.Frag} {h : Heap} {mg : Str → Option Value} (X : K.In h) (G : h.Ns mainGlobals mg) (c : He.SaysD fa fn K) : Df K mg "_law_grey_for" s_l_grey_for := by
  obtain ⟨fd, F⟩ := c.def_ 62 (d := d_l_grey_for) rfl
  exact ⟨_, fd, F, He.glo_ok X G (c.fact 62 (f := .glo "_law_grey_for") rfl)⟩
theorem df_l_price {K : PySem.W.Frag} {h : Heap} {mg : Str → Option Value} (X : K.In h) (G : h.Ns mainGlobals mg) (c : He.SaysD fa fn K) : Df K mg "_law_price" s_l_price := by
  obtain ⟨fd, F⟩ := c.def_ 63 (d := d_l_price) rfl
  exact ⟨_, fd, F, He.glo_ok X G (c.fact 63 (f := .glo "_law_price") rfl)⟩
theorem df_l_least_costs {K : PySem.W.Frag} {h : Heap} {mg : Str → Option Value} (X : K.In h) (G : h.Ns mainGlobals mg) (c : He.SaysD fa fn K) : Df K mg "_law_least_costs" s_l_least_costs := by
  obtain ⟨fd, F⟩ := c.def_ 64 (d := d_l_least_costs) rfl
  exact ⟨_, fd, F, He.glo_ok X G (c.fact 64 (f := .glo "_law_least_costs") rfl)⟩
theorem df_l_is_digits {K : PySem.W.Frag} {h : Heap} {mg : Str → Option Value} (X : K.In h) (G : h.Ns mainGlobals mg) (c : He.SaysD fa fn K) : Df K mg "_law_is_digits" s_l_is_digits := by
  obtain ⟨fd, F⟩ := c.def_ 65 (d := d_l_is_digits) rfl
  exact ⟨_, fd, F, He.glo_ok X G (c.fact 65 (f := .glo "_law_is_digits") rfl)⟩
theorem df_l_picture {K : PySem.W.Frag} {h : Heap} {mg : Str → Option Value} (X : K.In h) (G : h.Ns mainGlobals mg) (c : He.SaysD fa fn K) : Df K mg "_law_picture" s_l_picture := by
  obtain ⟨fd, F⟩ := c.def_ 66 (d := d_l_picture) rfl
  exact ⟨_, fd, F, He.glo_ok X G (c.fact 66 (f := .glo "_law_picture") rfl)⟩
theorem df_l_prices {K : PySem.W.Frag} {h : Heap} {mg : Str → Option Value} (X : K.In h) (G : h.Ns mainGlobals mg) (c : He.SaysD fa fn K) : Df K mg "_law_prices" s_l_prices := by
  obtain ⟨fd, F⟩ := c.def_ 67 (d := d_l_prices) rfl
  exact ⟨_, fd, F, He.glo_ok X G (c.fact 67 (f := .glo "_law_prices") rfl)⟩
theorem df_l_key {K : PySem.W.Frag} {h : Heap} {mg : Str → Option Value} (X : K.In h) (G : h.Ns mainGlobals mg) (c : He.SaysD fa fn K) : Df K mg "_law_key" s_l_key := by
  obtain ⟨fd, F⟩ := c.def_ 68 (d := d_l_key) rfl
  exact ⟨_, fd, F, He.glo_ok X G (c.fact 68 (f := .glo "_law_key") rfl)⟩
theorem df_l_band_key {K : PySem.W.Frag} {h : Heap} {mg : Str → Option Value} (X : K.In h) (G : h.Ns mainGlobals mg) (c : He.SaysD fa fn K) : Df K mg "_law_band_key" s_l_band_key := by
  obtain ⟨fd, F⟩ := c.def_ 69 (d := d_l_band_key) rfl
  exact ⟨_, fd, F, He.glo_ok X G (c.fact 69 (f := .glo "_law_band_key") rfl)⟩
theorem df_l_message {K : PySem.W.Frag} {h : Heap} {mg : Str → Option Value} (X : K.In h) (G : h.Ns mainGlobals mg) (c : He.SaysD fa fn K) : Df K mg "_law_message" s_l_message := by
  obtain ⟨fd, F⟩ := c.def_ 70 (d := d_l_message) rfl
  exact ⟨_, fd, F, He.glo_ok X G (c.fact 70 (f := .glo "_law_message") rfl)⟩
theorem df_l_stacked {K : PySem.W.Frag} {h : Heap} {mg : Str → Option Value} (X : K.In h) (G : h.Ns mainGlobals mg) (c : He.SaysD fa fn K) : Df K mg "_law_stacked" s_l_stacked := by
  obtain ⟨fd, F⟩ := c.def_ 71 (d := d_l_stacked) rfl
  exact ⟨_, fd, F, He.glo_ok X G (c.fact 71 (f := .glo "_law_stacked") rfl)⟩
theorem df_l_parted {K : PySem.W.Frag} {h : Heap} {mg : Str → Option Value} (X : K.In h) (G : h.Ns mainGlobals mg) (c : He.SaysD fa fn K) : Df K mg "_law_parted" s_l_parted := by
  obtain ⟨fd, F⟩ := c.def_ 72 (d := d_l_parted) rfl
  exact ⟨_, fd, F, He.glo_ok X G (c.fact 72 (f := .glo "_law_parted") rfl)⟩
theorem df_l_hands {K : PySem.W.Frag} {h : Heap} {mg : Str → Option Value} (X : K.In h) (G : h.Ns mainGlobals mg) (c : He.SaysD fa fn K) : Df K mg "_law_hands" s_l_hands := by
  obtain ⟨fd, F⟩ := c.def_ 73 (d := d_l_hands) rfl
  exact ⟨_, fd, F, He.glo_ok X G (c.fact 73 (f := .glo "_law_hands") rfl)⟩
theorem df_l_scene {K : PySem.W.Frag} {h : Heap} {mg : Str → Option Value} (X : K.In h) (G : h.Ns mainGlobals mg) (c : He.SaysD fa fn K) : Df K mg "_law_scene" s_l_scene := by
  obtain ⟨fd, F⟩ := c.def_ 74 (d := d_l_scene) rfl
  exact ⟨_, fd, F, He.glo_ok X G (c.fact 74 (f := .glo "_law_scene") rfl)⟩
theorem df_l_joint_mark {K : PySem.W.Frag} {h : Heap} {mg : Str → Option Value} (X : K.In h) (G : h.Ns mainGlobals mg) (c : He.SaysD fa fn K) : Df K mg "_law_joint_mark" s_l_joint_mark := by
  obtain ⟨fd, F⟩ := c.def_ 75 (d := d_l_joint_mark) rfl
  exact ⟨_, fd, F, He.glo_ok X G (c.fact 75 (f := .glo "_law_joint_mark") rfl)⟩
theorem df_l_is_joint {K : PySem.W.Frag} {h : Heap} {mg : Str → Option Value} (X : K.In h) (G : h.Ns mainGlobals mg) (c : He.SaysD fa fn K) : Df K mg "_law_is_joint" s_l_is_joint := by
  obtain ⟨fd, F⟩ := c.def_ 76 (d := d_l_is_joint) rfl
  exact ⟨_, fd, F, He.glo_ok X G (c.fact 76 (f := .glo "_law_is_joint") rfl)⟩
theorem df_l_is_binding {K : PySem.W.Frag} {h : Heap} {mg : Str → Option Value} (X : K.In h) (G : h.Ns mainGlobals mg) (c : He.SaysD fa fn K) : Df K mg "_law_is_binding" s_l_is_binding := by
  obtain ⟨fd, F⟩ := c.def_ 77 (d := d_l_is_binding) rfl
  exact ⟨_, fd, F, He.glo_ok X G (c.fact 77 (f := .glo "_law_is_binding") rfl)⟩
theorem df_l_park {K : PySem.W.Frag} {h : Heap} {mg : Str → Option Value} (X : K.In h) (G : h.Ns mainGlobals mg) (c : He.SaysD fa fn K) : Df K mg "_law_park" s_l_park := by
  obtain ⟨fd, F⟩ := c.def_ 78 (d := d_l_park) rfl
  exact ⟨_, fd, F, He.glo_ok X G (c.fact 78 (f := .glo "_law_park") rfl)⟩
theorem df_l_heard {K : PySem.W.Frag} {h : Heap} {mg : Str → Option Value} (X : K.In h) (G : h.Ns mainGlobals mg) (c : He.SaysD fa fn K) : Df K mg "_law_heard" s_l_heard := by
  obtain ⟨fd, F⟩ := c.def_ 79 (d := d_l_heard) rfl
  exact ⟨_, fd, F, He.glo_ok X G (c.fact 79 (f := .glo "_law_heard") rfl)⟩
theorem df_l_by_hand_right {K : PySem.W.Frag} {h : Heap} {mg : Str → Option Value} (X : K.In h) (G : h.Ns mainGlobals mg) (c : He.SaysD fa fn K) : Df K mg "_law_by_hand_right" s_l_by_hand_right := by
  obtain ⟨fd, F⟩ := c.def_ 80 (d := d_l_by_hand_right) rfl
  exact ⟨_, fd, F, He.glo_ok X G (c.fact 80 (f := .glo "_law_by_hand_right") rfl)⟩
theorem df_l_quiet_so {K : PySem.W.Frag} {h : Heap} {mg : Str → Option Value} (X : K.In h) (G : h.Ns mainGlobals mg) (c : He.SaysD fa fn K) : Df K mg "_law_quiet_so" s_l_quiet_so := by
  obtain ⟨fd, F⟩ := c.def_ 81 (d := d_l_quiet_so) rfl
  exact ⟨_, fd, F, He.glo_ok X G (c.fact 81 (f := .glo "_law_quiet_so") rfl)⟩
theorem df_l_right {K : PySem.W.Frag} {h : Heap} {mg : Str → Option Value} (X : K.In h) (G : h.Ns mainGlobals mg) (c : He.SaysD fa fn K) : Df K mg "_law_right" s_l_right := by
  obtain ⟨fd, F⟩ := c.def_ 82 (d := d_l_right) rfl
  exact ⟨_, fd, F, He.glo_ok X G (c.fact 82 (f := .glo "_law_right") rfl)⟩
theorem facts {P : Program} {w : World} {K : PySem.W.Frag} {h : Heap} {mg : Str → Option Value} {f : Addr} (X : K.In h) (G : h.Ns mainGlobals mg) (hfa : mg ("law" : Str) = some (.ref f)) (c : He.SaysD fa fn K) (ex : exB K = true) :
    ∃ fd : FuncData, (∀ (s : Shared) (v : Value), BindsTo s fd ⟨[v], []⟩ [("_law_script", v)]) ∧ ∀ base : Heap, FnOk P w K mg base CX0 lv_law f fd ["_law_script"] (sp_law K) := by
  obtain ⟨fd, F⟩ := c.def_ 83 (d := d_law) rfl
  have e := hfa.symm.trans (He.glo_ok X G (c.fact 83 (f := .glo "law") rfl))
  cases e
  have b := FunD.bindsA (ps := ["_law_script"]) F fun _ _ _ _ _ _ us hl => match us, hl with | [_], _ => rfl
  refine ⟨fd, fun s v => b s [v] rfl, fun base => ?_⟩
  have B := bi_ok X G c
  have NP := np_ok X G c
  have PR := pr_ok X G c ex
  have C_l_box := ok_l_box (P := P) (w := w) (base := base) (D := df_l_box X G c) (B := B) 
  have C_columns_beside := ok_columns_beside (P := P) (w := w) (base := base) (D := df_columns_beside X G c) (B := B) 
  have C_tupled := ok_tupled (P := P) (w := w) (base := base) (D := df_tupled X G c) (B := B) 
  have C_sure_like := ok_sure_like (P := P) (w := w) (base := base) (D := df_sure_like X G c) (B := B) (C_tupled := C_tupled)
  have C_sure_kin := ok_sure_kin (P := P) (w := w) (base := base) (D := df_sure_kin X G c) (B := B) (C_sure_like := C_sure_like)
  have C_stacked := ok_stacked (P := P) (w := w) (base := base) (D := df_stacked X G c) (B := B) (C_sure_kin := C_sure_kin)
  have C_in_one := ok_in_one (P := P) (w := w) (base := base) (D := df_in_one X G c) (B := B) (C_stacked := C_stacked)
  have C_ascends := ok_ascends (P := P) (w := w) (base := base) (D := df_ascends X G c) (B := B) 
  have C_is_number := ok_is_number (P := P) (w := w) (base := base) (D := df_is_number X G c) (B := B) 
  have C_is_count := ok_is_count (P := P) (w := w) (base := base) (D := df_is_count X G c) (B := B) (C_is_number := C_is_number)
  have C_is_below := ok_is_below (P := P) (w := w) (base := base) (D := df_is_below X G c) (B := B) (C_is_count := C_is_count)
  have C_is_number_set := ok_is_number_set (P := P) (w := w) (base := base) (D := df_is_number_set X G c) (B := B) (C_ascends := C_ascends) (C_is_below := C_is_below)
  have C_lot_of_keys := ok_lot_of_keys (P := P) (w := w) (base := base) (D := df_lot_of_keys X G c) (B := B) (C_is_number_set := C_is_number_set) (C_tupled := C_tupled)
  have C_parted := ok_parted (P := P) (w := w) (base := base) (D := df_parted X G c) (B := B) 
  have C_is_row := ok_is_row (P := P) (w := w) (base := base) (D := df_is_row X G c) (B := B) (C_is_below := C_is_below)
  have C_are_rows_of := ok_are_rows_of (P := P) (w := w) (base := base) (D := df_are_rows_of X G c) (B := B) (C_is_row := C_is_row)
  have C_is_prime := ok_is_prime (P := P) (w := w) (base := base) (D := df_is_prime X G c) (B := B) (PR := PR) (C_is_number := C_is_number)
  have C_is_tuple_of := ok_is_tuple_of (P := P) (w := w) (base := base) (D := df_is_tuple_of X G c) (B := B) 
  have C_is_key := ok_is_key (P := P) (w := w) (base := base) (D := df_is_key X G c) (B := B) (C_are_rows_of := C_are_rows_of) (C_is_count := C_is_count) (C_is_prime := C_is_prime) (C_is_tuple_of := C_is_tuple_of)
  have C_sure_keys := ok_sure_keys (P := P) (w := w) (base := base) (D := df_sure_keys X G c) (B := B) (C_is_key := C_is_key) (C_tupled := C_tupled)
  have C_fit_rows := ok_fit_rows (P := P) (w := w) (base := base) (D := df_fit_rows X G c) (B := B) 
  have C_inverse_digit := ok_inverse_digit (P := P) (w := w) (base := base) (D := df_inverse_digit X G c) (B := B) 
  have C_marked_places := ok_marked_places (P := P) (w := w) (base := base) (D := df_marked_places X G c) (B := B) 
  have C_row_times := ok_row_times (P := P) (w := w) (base := base) (D := df_row_times X G c) (B := B) 
  have C_led_row := ok_led_row (P := P) (w := w) (base := base) (D := df_led_row X G c) (B := B) (C_inverse_digit := C_inverse_digit) (C_marked_places := C_marked_places) (C_row_times := C_row_times)
  have C_fit_lengths := ok_fit_lengths (P := P) (w := w) (base := base) (D := df_fit_lengths X G c) (B := B) 
  have C_row_less := ok_row_less (P := P) (w := w) (base := base) (D := df_row_less X G c) (B := B) (C_fit_lengths := C_fit_lengths)
  have C_less_at := ok_less_at (P := P) (w := w) (base := base) (D := df_less_at X G c) (B := B) (C_row_less := C_row_less) (C_row_times := C_row_times)
  have C_place_led := ok_place_led (P := P) (w := w) (base := base) (D := df_place_led X G c) (B := B) 
  have C_with_row := ok_with_row (P := P) (w := w) (base := base) (D := df_with_row X G c) (B := B) (C_led_row := C_led_row) (C_less_at := C_less_at) (C_place_led := C_place_led)
  have C_leads_of := ok_leads_of (P := P) (w := w) (base := base) (D := df_leads_of X G c) (B := B) (C_with_row := C_with_row)
  have C_unit_row := ok_unit_row (P := P) (w := w) (base := base) (D := df_unit_row X G c) (B := B) 
  have C_unmarked_rows := ok_unmarked_rows (P := P) (w := w) (base := base) (D := df_unmarked_rows X G c) (B := B) (C_fit_rows := C_fit_rows) (C_leads_of := C_leads_of) (C_tupled := C_tupled) (C_unit_row := C_unit_row)
  have C_bindings_of := ok_bindings_of (P := P) (w := w) (base := base) (D := df_bindings_of X G c) (B := B) (C_columns_beside := C_columns_beside) (C_in_one := C_in_one) (C_lot_of_keys := C_lot_of_keys) (C_parted := C_parted) (C_sure_keys := C_sure_keys) (C_unmarked_rows := C_unmarked_rows)
  obtain ⟨f2, fd2, FB2, m2, k2, b2⟩ := ok_binding (P := P) (w := w) (base := base) (df_binding X G c) B NP (C_bindings_of := C_bindings_of)
  have C_heard2 := ok_l_heard2 (df_l_heard X G c) B NP FB2 k2 b2 (by decide)
  have C_loud_in := ok_loud_in (P := P) (w := w) (base := base) (D := df_loud_in X G c) (B := B) (C_bindings_of := C_bindings_of) (C_is_below := C_is_below)
  obtain ⟨f3, fd3, FB3, m3, k3, b3⟩ := ok_loud_binding (P := P) (w := w) (base := base) (df_loud_binding X G c) B NP (C_loud_in := C_loud_in)
  have C_heard3 := ok_l_heard3 (df_l_heard X G c) B NP FB3 k3 b3 (by decide)
  have C_l_park := ok_l_park (P := P) (w := w) (base := base) (D := df_l_park X G c) (B := B) 
  have C_l_same := ok_l_same (P := P) (w := w) (base := base) (D := df_l_same X G c) (B := B) 
  have C_always_all := ok_always_all (P := P) (w := w) (base := base) (D := df_always_all X G c) (B := B) (C_bindings_of := C_bindings_of)
  have C_always_quiet := ok_always_quiet (P := P) (w := w) (base := base) (D := df_always_quiet X G c) (B := B) (C_loud_in := C_loud_in)
  have C_l_by_hand_right := ok_l_by_hand_right (P := P) (w := w) (base := base) (D := df_l_by_hand_right X G c) (B := B) (m2 := m2) (m3 := m3) (C_heard2 := C_heard2) (C_heard3 := C_heard3) (C_l_park := C_l_park) (C_l_same := C_l_same) (C_always_all := C_always_all) (C_always_quiet := C_always_quiet)
  have C_l_cells := ok_l_cells (P := P) (w := w) (base := base) (D := df_l_cells X G c) (B := B) 
  have C_l_all_rows := ok_l_all_rows (P := P) (w := w) (base := base) (D := df_l_all_rows X G c) (B := B) 
  have C_l_is_number := ok_l_is_number (P := P) (w := w) (base := base) (D := df_l_is_number X G c) (B := B) 
  have C_l_is_digits := ok_l_is_digits (P := P) (w := w) (base := base) (D := df_l_is_digits X G c) (B := B) (C_l_is_number := C_l_is_number)
  have C_l_is_joint := ok_l_is_joint (P := P) (w := w) (base := base) (D := df_l_is_joint X G c) (B := B) (C_l_is_digits := C_l_is_digits)
  have C_l_product := ok_l_product (P := P) (w := w) (base := base) (D := df_l_product X G c) (B := B) 
  have C_l_joint_mark := ok_l_joint_mark (P := P) (w := w) (base := base) (D := df_l_joint_mark X G c) (B := B) (C_l_product := C_l_product)
  have C_l_is_binding := ok_l_is_binding (P := P) (w := w) (base := base) (D := df_l_is_binding X G c) (B := B) (C_l_is_joint := C_l_is_joint) (C_l_joint_mark := C_l_joint_mark)
  have C_l_grey_for := ok_l_grey_for (P := P) (w := w) (base := base) (D := df_l_grey_for X G c) (B := B) 
  have C_l_greys := ok_l_greys (P := P) (w := w) (base := base) (D := df_l_greys X G c) (B := B) 
  have C_l_price := ok_l_price (P := P) (w := w) (base := base) (D := df_l_price X G c) (B := B) (C_l_grey_for := C_l_grey_for) (C_l_greys := C_l_greys)
  have C_l_row_plus := ok_l_row_plus (P := P) (w := w) (base := base) (D := df_l_row_plus X G c) (B := B) 
  have C_l_row_times := ok_l_row_times (P := P) (w := w) (base := base) (D := df_l_row_times X G c) (B := B) 
  have C_l_least_costs := ok_l_least_costs (P := P) (w := w) (base := base) (D := df_l_least_costs X G c) (B := B) (C_l_price := C_l_price) (C_l_row_plus := C_l_row_plus) (C_l_row_times := C_l_row_times)
  have C_l_lists := ok_l_lists (P := P) (w := w) (base := base) (D := df_l_lists X G c) (B := B) 
  have C_l_parted := ok_l_parted (P := P) (w := w) (base := base) (D := df_l_parted X G c) (B := B) 
  have C_l_take := ok_l_take (P := P) (w := w) (base := base) (D := df_l_take X G c) (B := B) 
  have C_l_pick := ok_l_pick (P := P) (w := w) (base := base) (D := df_l_pick X G c) (B := B) (C_l_take := C_l_take)
  have C_l_put := ok_l_put (P := P) (w := w) (base := base) (D := df_l_put X G c) (B := B) 
  have C_l_read := ok_l_read (P := P) (w := w) (base := base) (D := df_l_read X G c) (B := B) (C_l_row_plus := C_l_row_plus) (C_l_row_times := C_l_row_times)
  have C_l_rests := ok_l_rests (P := P) (w := w) (base := base) (D := df_l_rests X G c) (B := B) (C_l_greys := C_l_greys)
  have C_l_reading := ok_l_reading (P := P) (w := w) (base := base) (D := df_l_reading X G c) (B := B) (C_l_read := C_l_read) (C_l_rests := C_l_rests)
  have C_l_stacked := ok_l_stacked (P := P) (w := w) (base := base) (D := df_l_stacked X G c) (B := B) 
  have C_l_quiet_so := ok_l_quiet_so (P := P) (w := w) (base := base) (D := df_l_quiet_so X G c) (B := B) (C_l_all_rows := C_l_all_rows) (C_l_least_costs := C_l_least_costs) (C_l_put := C_l_put) (C_l_reading := C_l_reading) (C_l_stacked := C_l_stacked)
  have C_l_band_key := ok_l_band_key (P := P) (w := w) (base := base) (D := df_l_band_key X G c) (B := B) (C_l_take := C_l_take)
  have C_l_of := ok_l_of (P := P) (w := w) (base := base) (D := df_l_of X G c) (B := B) (C_l_take := C_l_take)
  have C_l_key := ok_l_key (P := P) (w := w) (base := base) (D := df_l_key X G c) (B := B) (C_l_band_key := C_l_band_key) (C_l_of := C_l_of) (C_l_take := C_l_take)
  have C_l_hands := ok_l_hands (P := P) (w := w) (base := base) (D := df_l_hands X G c) (B := B) (C_l_key := C_l_key) (C_l_of := C_l_of)
  have C_l_message := ok_l_message (P := P) (w := w) (base := base) (D := df_l_message X G c) (B := B) (C_l_take := C_l_take)
  have C_l_shaped := ok_l_shaped (P := P) (w := w) (base := base) (D := df_l_shaped X G c) (B := B) 
  have C_l_picture := ok_l_picture (P := P) (w := w) (base := base) (D := df_l_picture X G c) (B := B) (C_l_of := C_l_of) (C_l_shaped := C_l_shaped) (C_l_take := C_l_take)
  have C_l_prices := ok_l_prices (P := P) (w := w) (base := base) (D := df_l_prices X G c) (B := B) (C_l_of := C_l_of) (C_l_take := C_l_take)
  have C_l_scene := ok_l_scene (P := P) (w := w) (base := base) (D := df_l_scene X G c) (B := B) (C_l_hands := C_l_hands) (C_l_message := C_l_message) (C_l_of := C_l_of) (C_l_picture := C_l_picture) (C_l_prices := C_l_prices) (C_l_take := C_l_take)
  have C_is_message := ok_is_message (P := P) (w := w) (base := base) (D := df_is_message X G c) (B := B) (C_is_row := C_is_row)
  have C_is_joint_row := ok_is_joint_row (P := P) (w := w) (base := base) (D := df_is_joint_row X G c) (B := B) (C_is_message := C_is_message)
  have C_row_product := ok_row_product (P := P) (w := w) (base := base) (D := df_row_product X G c) (B := B) (C_fit_lengths := C_fit_lengths)
  have C_marks_none := ok_marks_none (P := P) (w := w) (base := base) (D := df_marks_none X G c) (B := B) (C_columns_beside := C_columns_beside) (C_row_product := C_row_product)
  have C_one_row := ok_one_row (P := P) (w := w) (base := base) (D := df_one_row X G c) (B := B) 
  have C_is_binding := ok_is_binding (P := P) (w := w) (base := base) (D := df_is_binding X G c) (B := B) (C_in_one := C_in_one) (C_is_joint_row := C_is_joint_row) (C_lot_of_keys := C_lot_of_keys) (C_marks_none := C_marks_none) (C_one_row := C_one_row) (C_sure_keys := C_sure_keys)
  have C_l_right := ok_l_right (P := P) (w := w) (base := base) (D := df_l_right X G c) (B := B) (m2 := m2) (m3 := m3) (C_l_all_rows := C_l_all_rows) (C_heard2 := C_heard2) (C_heard3 := C_heard3) (C_l_is_binding := C_l_is_binding) (C_l_least_costs := C_l_least_costs) (C_l_lists := C_l_lists) (C_l_parted := C_l_parted) (C_l_pick := C_l_pick) (C_l_quiet_so := C_l_quiet_so) (C_l_same := C_l_same) (C_l_scene := C_l_scene) (C_l_stacked := C_l_stacked) (C_always_all := C_always_all) (C_always_quiet := C_always_quiet) (C_is_binding := C_is_binding)
  exact ok_law F B (C_l_box := C_l_box) (C_l_by_hand_right := C_l_by_hand_right) (C_l_cells := C_l_cells) (C_l_right := C_l_right)
end Dry

set_option Elab.async false
set_option linter.all false
set_option maxRecDepth 100000
set_option maxHeartbeats 0
open PySem PySem.W PySem.Calls PyProof.Rows
theorem PySem.Challenge.cw_drycells_k42_whole_always_hidden_or_boun_holds : PySem.Challenge.rw_drycells_k42_whole_always_hidden_or_boun.Holds := by
  w_on; o_law
  refine HandSHeadRun.head_any (r := OpenLaw.row PySem.Challenge.rw_drycells_k42_whole_always_hidden_or_boun) (q := view (OpenLaw.row PySem.Challenge.rw_drycells_k42_whole_always_hidden_or_boun).prog [93]) (H := Dry.hk) (ob := Dry.ob) (M := 8000) (loose := Dry.loose) (d := HandSHeadRun.topDef (OpenLaw.row PySem.Challenge.rw_drycells_k42_whole_always_hidden_or_boun).prog 93) (kwd := []) Dry.ob_eq
    (by kernel_rfl) (fun s => by kernel_rfl) Dry.run (by kernel_rfl) (by kernel_rfl) (by kernel_rfl) (by rfl) (by first | assumption | decide +kernel) (by decide +kernel) ⟨rfl, rfl, rfl, rfl, rfl, by decide +kernel⟩ ?hw ?hc
  case hw => w_witness2
  case hc =>
    refine L2.walk_ofE (l := PySem.Challenge.rw_drycells_k42_whole_always_hidden_or_boun) (n := 63) (k := Dry.lv_law) (x := "_law_script") (CX := L2.CX0) rfl (by decide) (by kernel_rfl) ⟨rfl, by decide, by decide⟩ ?F (fun _ _ _ _ z => z)
    intro w mg fa h Y G hmg0
    obtain ⟨K, KX, c⟩ := Y
    have hmg : mg ("law" : PySem.Str) = some (.ref fa) := by
      have e : (HandSHeadRun.topDef (OpenLaw.row PySem.Challenge.rw_drycells_k42_whole_always_hidden_or_boun).prog 93).name = ("law" : PySem.Str) := by kernel_rfl
      rw [← e]
      exact hmg0
    obtain ⟨fd, hb, hF⟩ := Dry.facts (P := (PySem.Challenge.rw_drycells_k42_whole_always_hidden_or_boun).prog) (w := w) KX G hmg c.t.d c.more
    exact ⟨K, fd, Dry.sp_law K, KX, hb, fun H a ns hl _ hS => Dry.law_of_list (Nat.le_trans hl (by decide)) hS fun _ => rfl, fun base _ _ => hF base⟩

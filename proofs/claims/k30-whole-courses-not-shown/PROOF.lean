import PyProof.Rows.All
import Wide.All
import OpenK.AllK
import Wide.FinOn
import KE.KStateDown
import HandS.ForMost
import HandS.Wide
import HandS.WideBits
import HandS.Gcd
import HandS.Zip
import HandS.IsInst
import HandS.Flow
import HandS.Style
import HandS.NoneIn
import HandS.Defaults
import HandS.RaiseMore
import HandS.EndBits
import HandS.EndTab
import HandS.HeadWalk
import HandS.HeadEnd
import HandS.HeadHook4
import HandS.Head3
import Flt.RightSqrt
import PySem.Challenge.RW_ironships_k30_whole_courses_not_shown
/-! text: KText -/
set_option Elab.async false
set_option linter.all false
set_option maxRecDepth 100000
set_option maxHeartbeats 4000000
namespace K30
open PySem PySem.Spec PyProof.Rows L2
def top (i : Nat) : Stmt := PySem.Challenge.pw_ironships_k30_whole_courses_not_shown.main.body.getD i (.Pass ⟨0, 0, 0, 0⟩)
abbrev s_is_whole : Stmt := top 7
abbrev s_are_wholes : Stmt := top 8
abbrev s_divisor_of : Stmt := top 9
abbrev s_reduced : Stmt := top 10
abbrev s_is_reduced : Stmt := top 11
abbrev s_sign_of : Stmt := top 12
abbrev s_is_ratio : Stmt := top 16
abbrev s_ratio : Stmt := top 17
abbrev s_ratio_sum : Stmt := top 18
abbrev s_ratio_less : Stmt := top 19
abbrev s_ratio_product : Stmt := top 20
abbrev s_ratio_over : Stmt := top 21
abbrev s_ratio_back : Stmt := top 22
abbrev s_is_lower : Stmt := top 23
abbrev s_gauss_less : Stmt := top 25
abbrev s_gauss_product : Stmt := top 26
abbrev s_conjugate : Stmt := top 27
abbrev s_square_length : Stmt := top 28
abbrev s_is_pair : Stmt := top 35
abbrev s_is_unit : Stmt := top 36
abbrev s_is_way : Stmt := top 37
abbrev s_way_along : Stmt := top 39
abbrev s_are_ratios : Stmt := top 41
abbrev s_is_fivefold : Stmt := top 42
abbrev s_square_root : Stmt := top 44
abbrev s_plain : Stmt := top 45
abbrev s_surd_from : Stmt := top 46
abbrev s_compared : Stmt := top 49
abbrev s_surd_sign : Stmt := top 50
abbrev s_check_heading : Stmt := top 52
abbrev s_check_course : Stmt := top 53
abbrev s_check_five : Stmt := top 54
abbrev s_ship_rows : Stmt := top 56
abbrev s_row_value : Stmt := top 57
abbrev s_numbers_of : Stmt := top 60
abbrev s_is_straight : Stmt := top 61
abbrev s_word_for : Stmt := top 62
abbrev s_Point_init : Stmt := inClass (top 63) 0
abbrev s_Point_sign_of_row : Stmt := inClass (top 63) 2
abbrev s_points_on : Stmt := top 64
abbrev s_in_order : Stmt := top 67
abbrev s_is_nought_row : Stmt := top 68
abbrev s_mixed_row : Stmt := top 70
abbrev s_showing : Stmt := top 71
abbrev s_course_shown : Stmt := top 72
abbrev s_some_unshown : Stmt := top 73
abbrev s_headings_of : Stmt := top 75
abbrev s_unshown_course : Stmt := top 76
abbrev s_is_course : Stmt := top 78
abbrev s_check_needle : Stmt := top 80
abbrev s_course_at : Stmt := top 81
abbrev s_law_lode : Stmt := top 83
abbrev s_law_deal : Stmt := top 84
abbrev s_law_some : Stmt := top 85
abbrev s_law_about : Stmt := top 86
abbrev s_law_gcd : Stmt := top 87
abbrev s_law_low : Stmt := top 88
abbrev s_law_part : Stmt := top 89
abbrev s_law_add : Stmt := top 90
abbrev s_law_gap : Stmt := top 91
abbrev s_law_mul : Stmt := top 92
abbrev s_law_div : Stmt := top 93
abbrev s_law_back : Stmt := top 94
abbrev s_law_sign : Stmt := top 96
abbrev s_law_any_part : Stmt := top 97
abbrev s_law_over : Stmt := top 98
abbrev s_law_sign_of : Stmt := top 102
abbrev s_law_heading : Stmt := top 104
abbrev s_law_half : Stmt := top 105
abbrev s_law_some_heading : Stmt := top 106
abbrev s_law_turn : Stmt := top 107
abbrev s_law_any_five : Stmt := top 108
abbrev s_law_total : Stmt := top 109
abbrev s_law_ship : Stmt := top 110
abbrev s_law_dead_five : Stmt := top 111
abbrev s_law_rounds : Stmt := top 112
abbrev s_law_flat_five : Stmt := top 113
abbrev s_law_kind_five : Stmt := top 114
abbrev s_law_wheel : Stmt := top 115
abbrev s_law_line_spots : Stmt := top 116
abbrev s_law_spot_sign : Stmt := top 117
abbrev s_law_told_spots : Stmt := top 119
abbrev s_law_ship_rows : Stmt := top 120
abbrev s_law_course_spots : Stmt := top 121
abbrev s_law_right : Stmt := top 122
abbrev s_law : Stmt := top 123
def d_is_whole : He.DefD := ⟨("is_whole", none), "is_whole", "is_whole", defArgs s_is_whole, defBody s_is_whole, defScope s_is_whole, [], []⟩
def d_are_wholes : He.DefD := ⟨("are_wholes", none), "are_wholes", "are_wholes", defArgs s_are_wholes, defBody s_are_wholes, defScope s_are_wholes, [], []⟩
def d_divisor_of : He.DefD := ⟨("divisor_of", none), "divisor_of", "divisor_of", defArgs s_divisor_of, defBody s_divisor_of, defScope s_divisor_of, [], []⟩
def d_reduced : He.DefD := ⟨("reduced", none), "reduced", "reduced", defArgs s_reduced, defBody s_reduced, defScope s_reduced, [], []⟩
def d_is_reduced : He.DefD := ⟨("is_reduced", none), "is_reduced", "is_reduced", defArgs s_is_reduced, defBody s_is_reduced, defScope s_is_reduced, [], []⟩
def d_sign_of : He.DefD := ⟨("sign_of", none), "sign_of", "sign_of", defArgs s_sign_of, defBody s_sign_of, defScope s_sign_of, [], []⟩
def d_is_ratio : He.DefD := ⟨("is_ratio", none), "is_ratio", "is_ratio", defArgs s_is_ratio, defBody s_is_ratio, defScope s_is_ratio, [], []⟩
def d_ratio : He.DefD := ⟨("ratio", none), "ratio", "ratio", defArgs s_ratio, defBody s_ratio, defScope s_ratio, [], []⟩
def d_ratio_sum : He.DefD := ⟨("ratio_sum", none), "ratio_sum", "ratio_sum", defArgs s_ratio_sum, defBody s_ratio_sum, defScope s_ratio_sum, [], []⟩
def d_ratio_less : He.DefD := ⟨("ratio_less", none), "ratio_less", "ratio_less", defArgs s_ratio_less, defBody s_ratio_less, defScope s_ratio_less, [], []⟩
def d_ratio_product : He.DefD := ⟨("ratio_product", none), "ratio_product", "ratio_product", defArgs s_ratio_product, defBody s_ratio_product, defScope s_ratio_product, [], []⟩
def d_ratio_over : He.DefD := ⟨("ratio_over", none), "ratio_over", "ratio_over", defArgs s_ratio_over, defBody s_ratio_over, defScope s_ratio_over, [], []⟩
def d_ratio_back : He.DefD := ⟨("ratio_back", none), "ratio_back", "ratio_back", defArgs s_ratio_back, defBody s_ratio_back, defScope s_ratio_back, [], []⟩
def d_is_lower : He.DefD := ⟨("is_lower", none), "is_lower", "is_lower", defArgs s_is_lower, defBody s_is_lower, defScope s_is_lower, [], []⟩
def d_gauss_less : He.DefD := ⟨("gauss_less", none), "gauss_less", "gauss_less", defArgs s_gauss_less, defBody s_gauss_less, defScope s_gauss_less, [], []⟩
def d_gauss_product : He.DefD := ⟨("gauss_product", none), "gauss_product", "gauss_product", defArgs s_gauss_product, defBody s_gauss_product, defScope s_gauss_product, [], []⟩
def d_conjugate : He.DefD := ⟨("conjugate", none), "conjugate", "conjugate", defArgs s_conjugate, defBody s_conjugate, defScope s_conjugate, [], []⟩
def d_square_length : He.DefD := ⟨("square_length", none), "square_length", "square_length", defArgs s_square_length, defBody s_square_length, defScope s_square_length, [], []⟩
def d_is_pair : He.DefD := ⟨("is_pair", none), "is_pair", "is_pair", defArgs s_is_pair, defBody s_is_pair, defScope s_is_pair, [], []⟩
def d_is_unit : He.DefD := ⟨("is_unit", none), "is_unit", "is_unit", defArgs s_is_unit, defBody s_is_unit, defScope s_is_unit, [], []⟩
def d_is_way : He.DefD := ⟨("is_way", none), "is_way", "is_way", defArgs s_is_way, defBody s_is_way, defScope s_is_way, [], []⟩
def d_way_along : He.DefD := ⟨("way_along", none), "way_along", "way_along", defArgs s_way_along, defBody s_way_along, defScope s_way_along, [], []⟩
def d_are_ratios : He.DefD := ⟨("are_ratios", none), "are_ratios", "are_ratios", defArgs s_are_ratios, defBody s_are_ratios, defScope s_are_ratios, [], []⟩
def d_is_fivefold : He.DefD := ⟨("is_fivefold", none), "is_fivefold", "is_fivefold", defArgs s_is_fivefold, defBody s_is_fivefold, defScope s_is_fivefold, [], []⟩
def d_square_root : He.DefD := ⟨("square_root", none), "square_root", "square_root", defArgs s_square_root, defBody s_square_root, defScope s_square_root, [], []⟩
def d_plain : He.DefD := ⟨("plain", none), "plain", "plain", defArgs s_plain, defBody s_plain, defScope s_plain, [], []⟩
def d_surd_from : He.DefD := ⟨("surd_from", none), "surd_from", "surd_from", defArgs s_surd_from, defBody s_surd_from, defScope s_surd_from, [], []⟩
def d_compared : He.DefD := ⟨("compared", none), "compared", "compared", defArgs s_compared, defBody s_compared, defScope s_compared, [], []⟩
def d_surd_sign : He.DefD := ⟨("surd_sign", none), "surd_sign", "surd_sign", defArgs s_surd_sign, defBody s_surd_sign, defScope s_surd_sign, [], []⟩
def d_check_heading : He.DefD := ⟨("check_heading", none), "check_heading", "check_heading", defArgs s_check_heading, defBody s_check_heading, defScope s_check_heading, [], []⟩
def d_check_course : He.DefD := ⟨("check_course", none), "check_course", "check_course", defArgs s_check_course, defBody s_check_course, defScope s_check_course, [], []⟩
def d_check_five : He.DefD := ⟨("check_five", none), "check_five", "check_five", defArgs s_check_five, defBody s_check_five, defScope s_check_five, [], []⟩
def d_ship_rows : He.DefD := ⟨("ship_rows", none), "ship_rows", "ship_rows", defArgs s_ship_rows, defBody s_ship_rows, defScope s_ship_rows, [], []⟩
def d_row_value : He.DefD := ⟨("row_value", none), "row_value", "row_value", defArgs s_row_value, defBody s_row_value, defScope s_row_value, [], []⟩
def d_numbers_of : He.DefD := ⟨("numbers_of", none), "numbers_of", "numbers_of", defArgs s_numbers_of, defBody s_numbers_of, defScope s_numbers_of, [], []⟩
def d_is_straight : He.DefD := ⟨("is_straight", none), "is_straight", "is_straight", defArgs s_is_straight, defBody s_is_straight, defScope s_is_straight, [], []⟩
def d_word_for : He.DefD := ⟨("word_for", none), "word_for", "word_for", defArgs s_word_for, defBody s_word_for, defScope s_word_for, [], []⟩
def d_Point_init : He.DefD := ⟨("Point", some "__init__"), "__init__", "Point.__init__", defArgs s_Point_init, defBody s_Point_init, defScope s_Point_init, [], []⟩
def d_Point_sign_of_row : He.DefD := ⟨("Point", some "sign_of_row"), "sign_of_row", "Point.sign_of_row", defArgs s_Point_sign_of_row, defBody s_Point_sign_of_row, defScope s_Point_sign_of_row, [], []⟩
def d_points_on : He.DefD := ⟨("points_on", none), "points_on", "points_on", defArgs s_points_on, defBody s_points_on, defScope s_points_on, [], []⟩
def d_in_order : He.DefD := ⟨("in_order", none), "in_order", "in_order", defArgs s_in_order, defBody s_in_order, defScope s_in_order, [], []⟩
def d_is_nought_row : He.DefD := ⟨("is_nought_row", none), "is_nought_row", "is_nought_row", defArgs s_is_nought_row, defBody s_is_nought_row, defScope s_is_nought_row, [], []⟩
def d_mixed_row : He.DefD := ⟨("mixed_row", none), "mixed_row", "mixed_row", defArgs s_mixed_row, defBody s_mixed_row, defScope s_mixed_row, [], []⟩
def d_showing : He.DefD := ⟨("showing", none), "showing", "showing", defArgs s_showing, defBody s_showing, defScope s_showing, [], []⟩
def d_course_shown : He.DefD := ⟨("course_shown", none), "course_shown", "course_shown", defArgs s_course_shown, defBody s_course_shown, defScope s_course_shown, [], []⟩
def d_some_unshown : He.DefD := ⟨("some_unshown", none), "some_unshown", "some_unshown", defArgs s_some_unshown, defBody s_some_unshown, defScope s_some_unshown, [], []⟩
def d_headings_of : He.DefD := ⟨("headings_of", none), "headings_of", "headings_of", defArgs s_headings_of, defBody s_headings_of, defScope s_headings_of, [], []⟩
def d_unshown_course : He.DefD := ⟨("unshown_course", none), "unshown_course", "unshown_course", defArgs s_unshown_course, defBody s_unshown_course, defScope s_unshown_course, [], []⟩
def d_is_course : He.DefD := ⟨("is_course", none), "is_course", "is_course", defArgs s_is_course, defBody s_is_course, defScope s_is_course, [], []⟩
def d_check_needle : He.DefD := ⟨("check_needle", none), "check_needle", "check_needle", defArgs s_check_needle, defBody s_check_needle, defScope s_check_needle, [], []⟩
def d_course_at : He.DefD := ⟨("course_at", none), "course_at", "course_at", defArgs s_course_at, defBody s_course_at, defScope s_course_at, [], []⟩
def d_law_lode : He.DefD := ⟨("_law_lode", none), "_law_lode", "_law_lode", defArgs s_law_lode, defBody s_law_lode, defScope s_law_lode, [], []⟩
def d_law_deal : He.DefD := ⟨("_law_deal", none), "_law_deal", "_law_deal", defArgs s_law_deal, defBody s_law_deal, defScope s_law_deal, [], []⟩
def d_law_some : He.DefD := ⟨("_law_some", none), "_law_some", "_law_some", defArgs s_law_some, defBody s_law_some, defScope s_law_some, [], []⟩
def d_law_about : He.DefD := ⟨("_law_about", none), "_law_about", "_law_about", defArgs s_law_about, defBody s_law_about, defScope s_law_about, [], []⟩
def d_law_gcd : He.DefD := ⟨("_law_gcd", none), "_law_gcd", "_law_gcd", defArgs s_law_gcd, defBody s_law_gcd, defScope s_law_gcd, [], []⟩
def d_law_low : He.DefD := ⟨("_law_low", none), "_law_low", "_law_low", defArgs s_law_low, defBody s_law_low, defScope s_law_low, [], []⟩
def d_law_part : He.DefD := ⟨("_law_part", none), "_law_part", "_law_part", defArgs s_law_part, defBody s_law_part, defScope s_law_part, [], []⟩
def d_law_add : He.DefD := ⟨("_law_add", none), "_law_add", "_law_add", defArgs s_law_add, defBody s_law_add, defScope s_law_add, [], []⟩
def d_law_gap : He.DefD := ⟨("_law_gap", none), "_law_gap", "_law_gap", defArgs s_law_gap, defBody s_law_gap, defScope s_law_gap, [], []⟩
def d_law_mul : He.DefD := ⟨("_law_mul", none), "_law_mul", "_law_mul", defArgs s_law_mul, defBody s_law_mul, defScope s_law_mul, [], []⟩
def d_law_div : He.DefD := ⟨("_law_div", none), "_law_div", "_law_div", defArgs s_law_div, defBody s_law_div, defScope s_law_div, [], []⟩
def d_law_back : He.DefD := ⟨("_law_back", none), "_law_back", "_law_back", defArgs s_law_back, defBody s_law_back, defScope s_law_back, [], []⟩
def d_law_sign : He.DefD := ⟨("_law_sign", none), "_law_sign", "_law_sign", defArgs s_law_sign, defBody s_law_sign, defScope s_law_sign, [], []⟩
def d_law_any_part : He.DefD := ⟨("_law_any_part", none), "_law_any_part", "_law_any_part", defArgs s_law_any_part, defBody s_law_any_part, defScope s_law_any_part, [], []⟩
def d_law_over : He.DefD := ⟨("_law_over", none), "_law_over", "_law_over", defArgs s_law_over, defBody s_law_over, defScope s_law_over, [], []⟩
def d_law_sign_of : He.DefD := ⟨("_law_sign_of", none), "_law_sign_of", "_law_sign_of", defArgs s_law_sign_of, defBody s_law_sign_of, defScope s_law_sign_of, [], []⟩
def d_law_heading : He.DefD := ⟨("_law_heading", none), "_law_heading", "_law_heading", defArgs s_law_heading, defBody s_law_heading, defScope s_law_heading, [], []⟩
def d_law_half : He.DefD := ⟨("_law_half", none), "_law_half", "_law_half", defArgs s_law_half, defBody s_law_half, defScope s_law_half, [], []⟩
def d_law_some_heading : He.DefD := ⟨("_law_some_heading", none), "_law_some_heading", "_law_some_heading", defArgs s_law_some_heading, defBody s_law_some_heading, defScope s_law_some_heading, [], []⟩
def d_law_turn : He.DefD := ⟨("_law_turn", none), "_law_turn", "_law_turn", defArgs s_law_turn, defBody s_law_turn, defScope s_law_turn, [], []⟩
def d_law_any_five : He.DefD := ⟨("_law_any_five", none), "_law_any_five", "_law_any_five", defArgs s_law_any_five, defBody s_law_any_five, defScope s_law_any_five, [], []⟩
def d_law_total : He.DefD := ⟨("_law_total", none), "_law_total", "_law_total", defArgs s_law_total, defBody s_law_total, defScope s_law_total, [], []⟩
def d_law_ship : He.DefD := ⟨("_law_ship", none), "_law_ship", "_law_ship", defArgs s_law_ship, defBody s_law_ship, defScope s_law_ship, [], []⟩
def d_law_dead_five : He.DefD := ⟨("_law_dead_five", none), "_law_dead_five", "_law_dead_five", defArgs s_law_dead_five, defBody s_law_dead_five, defScope s_law_dead_five, [], []⟩
def d_law_rounds : He.DefD := ⟨("_law_rounds", none), "_law_rounds", "_law_rounds", defArgs s_law_rounds, defBody s_law_rounds, defScope s_law_rounds, [], []⟩
def d_law_flat_five : He.DefD := ⟨("_law_flat_five", none), "_law_flat_five", "_law_flat_five", defArgs s_law_flat_five, defBody s_law_flat_five, defScope s_law_flat_five, [], []⟩
def d_law_kind_five : He.DefD := ⟨("_law_kind_five", none), "_law_kind_five", "_law_kind_five", defArgs s_law_kind_five, defBody s_law_kind_five, defScope s_law_kind_five, [], []⟩
def d_law_wheel : He.DefD := ⟨("_law_wheel", none), "_law_wheel", "_law_wheel", defArgs s_law_wheel, defBody s_law_wheel, defScope s_law_wheel, [], []⟩
def d_law_line_spots : He.DefD := ⟨("_law_line_spots", none), "_law_line_spots", "_law_line_spots", defArgs s_law_line_spots, defBody s_law_line_spots, defScope s_law_line_spots, [], []⟩
def d_law_spot_sign : He.DefD := ⟨("_law_spot_sign", none), "_law_spot_sign", "_law_spot_sign", defArgs s_law_spot_sign, defBody s_law_spot_sign, defScope s_law_spot_sign, [], []⟩
def d_law_told_spots : He.DefD := ⟨("_law_told_spots", none), "_law_told_spots", "_law_told_spots", defArgs s_law_told_spots, defBody s_law_told_spots, defScope s_law_told_spots, [], []⟩
def d_law_ship_rows : He.DefD := ⟨("_law_ship_rows", none), "_law_ship_rows", "_law_ship_rows", defArgs s_law_ship_rows, defBody s_law_ship_rows, defScope s_law_ship_rows, [], []⟩
def d_law_course_spots : He.DefD := ⟨("_law_course_spots", none), "_law_course_spots", "_law_course_spots", defArgs s_law_course_spots, defBody s_law_course_spots, defScope s_law_course_spots, [], []⟩
def d_law_right : He.DefD := ⟨("_law_right", none), "_law_right", "_law_right", defArgs s_law_right, defBody s_law_right, defScope s_law_right, [], []⟩
def d_law : He.DefD := ⟨("law", none), "law", "law", defArgs s_law, defBody s_law, defScope s_law, [], []⟩
def fn0 : List He.DefD := [d_is_whole, d_are_wholes, d_divisor_of, d_reduced, d_is_reduced, d_sign_of, d_is_ratio, d_ratio, d_ratio_sum, d_ratio_less, d_ratio_product, d_ratio_over, d_ratio_back, d_is_lower, d_gauss_less, d_gauss_product, d_conjugate, d_square_length, d_is_pair, d_is_unit, d_is_way, d_way_along, d_are_ratios, d_is_fivefold, d_square_root, d_plain, d_surd_from, d_compared, d_surd_sign, d_check_heading]
def fn1 : List He.DefD := [d_check_course, d_check_five, d_ship_rows, d_row_value, d_numbers_of, d_is_straight, d_word_for, d_Point_init, d_Point_sign_of_row, d_points_on, d_in_order, d_is_nought_row, d_mixed_row, d_showing, d_course_shown, d_some_unshown, d_headings_of, d_unshown_course, d_is_course, d_check_needle, d_course_at, d_law_lode, d_law_deal, d_law_some, d_law_about, d_law_gcd, d_law_low, d_law_part, d_law_add, d_law_gap]
def fn2 : List He.DefD := [d_law_mul, d_law_div, d_law_back, d_law_sign, d_law_any_part, d_law_over, d_law_sign_of, d_law_heading, d_law_half, d_law_some_heading, d_law_turn, d_law_any_five, d_law_total, d_law_ship, d_law_dead_five, d_law_rounds, d_law_flat_five, d_law_kind_five, d_law_wheel, d_law_line_spots, d_law_spot_sign, d_law_told_spots, d_law_ship_rows, d_law_course_spots, d_law_right, d_law]
def fn : List He.DefD := fn0 ++ fn1 ++ fn2
def fa0 : List He.Fa := [.glo "is_whole", .glo "are_wholes", .glo "divisor_of", .glo "reduced", .glo "is_reduced", .glo "sign_of", .glo "is_ratio", .glo "ratio", .glo "ratio_sum", .glo "ratio_less", .glo "ratio_product", .glo "ratio_over", .glo "ratio_back", .glo "is_lower", .glo "gauss_less", .glo "gauss_product", .glo "conjugate", .glo "square_length", .glo "is_pair", .glo "is_unit", .glo "is_way", .glo "way_along", .glo "are_ratios", .glo "is_fivefold", .glo "square_root", .glo "plain", .glo "surd_from", .glo "compared", .glo "surd_sign", .glo "check_heading"]
def fa1 : List He.Fa := [.glo "check_course", .glo "check_five", .glo "ship_rows", .glo "row_value", .glo "numbers_of", .glo "is_straight", .glo "word_for", .glo "points_on", .glo "in_order", .glo "is_nought_row", .glo "mixed_row", .glo "showing", .glo "course_shown", .glo "some_unshown", .glo "headings_of", .glo "unshown_course", .glo "is_course", .glo "check_needle", .glo "course_at", .glo "_law_lode", .glo "_law_deal", .glo "_law_some", .glo "_law_about", .glo "_law_gcd", .glo "_law_low", .glo "_law_part", .glo "_law_add", .glo "_law_gap", .glo "_law_mul", .glo "_law_div"]
def fa2 : List He.Fa := [.glo "_law_back", .glo "_law_sign", .glo "_law_any_part", .glo "_law_over", .glo "_law_sign_of", .glo "_law_heading", .glo "_law_half", .glo "_law_some_heading", .glo "_law_turn", .glo "_law_any_five", .glo "_law_total", .glo "_law_ship", .glo "_law_dead_five", .glo "_law_rounds", .glo "_law_flat_five", .glo "_law_kind_five", .glo "_law_wheel", .glo "_law_line_spots", .glo "_law_spot_sign", .glo "_law_told_spots", .glo "_law_ship_rows", .glo "_law_course_spots", .glo "_law_right", .glo "law", .glo "ZERO", .glo "ONE", .glo "FOUR", .glo "NORTH", .glo "EAST", .glo "SOUTH"]
def fa3 : List He.Fa := [.glo "WEST", .glo "SAMPLES", .glo "Point", .cls "Point", .noat "Point" "cosine", .noat "Point" "sine", .noat "Point" "square", .meth "Point" "sign_of_row", .mkr "Point", .free "abs", .free "all", .free "bool", .free "divmod", .free "int", .free "isinstance", .free "len", .free "max", .free "min", .free "range", .free "repr", .free "sum", .free "tuple", .free "zip"]
def fa : List He.Fa := fa0 ++ fa1 ++ fa2 ++ fa3
def nm0 : List PySem.Str := ["__name__", "CompassError", "InvalidHeading", "InvalidCourse", "InvalidFive", "is_whole", "are_wholes", "divisor_of", "reduced", "is_reduced", "sign_of", "ZERO", "ONE", "is_ratio", "ratio", "ratio_sum", "ratio_less", "ratio_product", "ratio_over", "ratio_back"]
def nm1 : List PySem.Str := ["is_lower", "gauss_less", "gauss_product", "conjugate", "square_length", "NORTH", "EAST", "SOUTH", "WEST", "SAMPLES", "is_pair", "is_unit", "is_way", "quarter_by", "way_along", "are_ratios", "is_fivefold", "square_root", "plain", "surd_from"]
def nm2 : List PySem.Str := ["sign_of_one", "sign_of_two", "compared", "surd_sign", "check_heading", "check_course", "check_five", "ship_rows", "row_value", "FOUR", "numbers_of", "is_straight", "word_for", "Point", "points_on", "quarter_of_surds", "comes_first", "in_order", "is_nought_row", "rises_somewhere"]
def nm3 : List PySem.Str := ["mixed_row", "showing", "course_shown", "some_unshown", "headings_of", "unshown_course", "is_course", "check_needle", "course_at", "_law_lode", "_law_deal", "_law_some", "_law_about", "_law_gcd", "_law_low", "_law_part", "_law_add", "_law_gap", "_law_mul", "_law_div"]
def nm4 : List PySem.Str := ["_law_back", "_law_below", "_law_sign", "_law_any_part", "_law_over", "_law_root", "_law_square_of", "_law_surd", "_law_sign_of", "_law_compared", "_law_heading", "_law_half", "_law_some_heading", "_law_turn", "_law_any_five", "_law_total", "_law_ship", "_law_dead_five", "_law_rounds", "_law_flat_five"]
def nm5 : List PySem.Str := ["_law_kind_five", "_law_wheel", "_law_line_spots", "_law_spot_sign", "_law_spot_before", "_law_told_spots", "_law_ship_rows", "_law_course_spots", "_law_right"]
def nm : List PySem.Str := nm0 ++ nm1 ++ nm2 ++ nm3 ++ nm4 ++ nm5
/-- the i-th item of the tuple at a, if it is an object -/
def itAt (i : Nat) (a : Addr) (K : PySem.W.Frag) : Addr := match K.lookup a with
  | some ⟨_, _, .seq its _, _⟩ => (match its.toList[i]? with
    | some (.ref b) => b
    | _ => 0)
  | _ => 0
/-- a tuple of these in the written part at a -/
def tupAt (K : PySem.W.Frag) (a : Addr) (vs : List V) : Bool := match K.lookup a with
  | some ⟨.type c, _, .seq its _, _⟩ => decide (c = "tuple") && (decide (its.size ≤ sizeLine) && He.relAll vs its.toList)
  | _ => false
def pairAt (K : PySem.W.Frag) (a : Addr) (n d : Int) : Bool := tupAt K a [.int n, .int d]
def unitAt (K : PySem.W.Frag) (a : Addr) (c cd s sd : Int) : Bool := tupAt K a [.ref (itAt 0 a K), .ref (itAt 1 a K)] && (pairAt K (itAt 0 a K) c cd && pairAt K (itAt 1 a K) s sd)
def sampAt (K : PySem.W.Frag) (i : Nat) (c cd s sd : Int) : Bool := unitAt K (itAt i (He.ga K "SAMPLES") K) c cd s sd
def bltAt (K : PySem.W.Frag) (x : Str) (id : String) : Bool := match PySem.W.nsIn K mainGlobals x with
  | some (some (.builtin b)) => decide (b = id)
  | _ => false
def exK (K : PySem.W.Frag) : Bool :=
  bltAt K "gcd" "math.gcd" && (bltAt K "isqrt" "math.isqrt" && (pairAt K (He.ga K "ZERO") 0 1 && (pairAt K (He.ga K "ONE") 1 1 && (pairAt K (He.ga K "FOUR") 4 1 &&
  (tupAt K (He.ga K "SAMPLES") ((List.range 8).map fun i => .ref (itAt i (He.ga K "SAMPLES") K)) &&
  (sampAt K 0 1 1 0 1 && (sampAt K 1 0 1 1 1 && (sampAt K 2 (-1) 1 0 1 && (sampAt K 3 0 1 (-1) 1 && (sampAt K 4 3 5 4 5 && (sampAt K 5 (-3) 5 4 5 && (sampAt K 6 (-3) 5 (-4) 5 && sampAt K 7 3 5 (-4) 5))))))))))))
abbrev R : PySem.W.OpenRow := PySem.W.OpenLaw.row PySem.Challenge.rw_ironships_k30_whole_courses_not_shown
abbrev hk : PySem.W.Hook := He.hookX 5 fa fn [] [] exK
def ob (s : PySem.W.SharedT) : He.AlX := He.obsX 5 fa fn [] [] exK (HandSHeadRun.getT s)
theorem ob_eq (s : PySem.W.SharedT) : ob s = hk.obs s.abs := He.obsX_eq (HandSHeadRun.getT_eq s)
end K30

/-! text: KHead -/
set_option Elab.async false
set_option linter.all false
set_option maxRecDepth 100000
set_option maxHeartbeats 0
namespace K30
open PySem PySem.W PySem.Calls PyProof.Rows HandSHeadRun
abbrev qv : Program := PySem.W.view R.prog [0, 123]
/-- what an object names, but for modules and the built-ins' names -/
def refsS (g : Addr → Option Obj) (as : List Addr) : List Addr := as.flatMap fun a => match g a with
  | some o => (match o.cls with
    | .type "module" => []
    | _ => (He.refsD o).filter fun b => b != builtinsNs && b != mainGlobals)
  | none => []
/-- the addresses looked at: four steps from the globals -/
def asO (g : Addr → Option Obj) : List Addr :=
  let f1 := refsS g [mainGlobals]
  let f2 := refsS g f1
  let f3 := refsS g f2
  mainGlobals :: (f1 ++ (f2 ++ (f3 ++ refsS g f3)))
/-- what the hook sees of a heap -/
def fragO (g : Addr → Option Obj) : PySem.W.Frag := He.frT g (asO g)
def obO (g : Addr → Option Obj) : He.AlT × Bool := (He.obsT fa fn [] (fragO g), exK (fragO g))
def hkO : PySem.W.Hook where
  α := He.AlT × Bool
  obs := fun s => obO s.heap.get?
  val := fun w => (He.valT fn [] w, true)
  says := fun w h => ∃ K : PySem.W.Frag, K.In h ∧ He.SaysT fa fn [] w K ∧ exK K = true
  of := fun _ _ e => ⟨_, He.frT_in, congrArg Prod.fst e, congrArg Prod.snd e⟩
  keeps := fun _ _ _ ⟨K, hK, c⟩ k => ⟨K, PySem.W.Frag.In.keeps hK k, c⟩
def obs0 (s : PySem.W.SharedT) : He.AlT × Bool := obO (getT s)
theorem obs0_eq (s : PySem.W.SharedT) : obs0 s = hkO.obs s.abs := by
  have e : getT s = s.abs.heap.get? := funext (getT_eq s)
  unfold obs0
  rw [e]
  rfl
theorem run1 (w : World) : (wholeF (fun p => stepQ (denQ tabQ) p w) fenceQ 6000 R.prog).map (fun x => looksF R.prog x.1.heap x.2.abs) = some true := by
  kernel_rfl
theorem run2 (w : World) : (wholeF (fun p => stepQ (denQ tabQ) p w) fenceQ 6000 R.prog).map (fun x => seenQ qv nm (importedModules R.prog.main.body) (fun s => xlAt qv [] s && recOk R.toRowW.records s) x.2.abs) = some (openGood qv nm) := by
  kernel_rfl
theorem run3 (w : World) : (wholeF (fun p => stepQ (denQ tabQ) p w) fenceQ 6000 R.prog).map (fun x => obs0 x.2) = some (hkO.val w) := by
  kernel_rfl
theorem run (w : World) : RunEqI R qv hkO obs0 6000 nm w := by
  have h1 := run1 w
  have h2 := run2 w
  have h3 := run3 w
  unfold RunEqI
  generalize (wholeF (fun p => stepQ (denQ tabQ) p w) fenceQ 6000 R.prog) = o at h1 h2 h3 ⊢
  cases o with
  | none => cases h1
  | some x => exact congrArg some (Prod.ext (Option.some.inj h1) (Prod.ext (Option.some.inj h2) (Option.some.inj h3)))
end K30

/-! text: KLay -/
set_option Elab.async false
set_option linter.all false
set_option maxRecDepth 100000
set_option maxHeartbeats 4000000
/-! own layer: what is known of each slot (Γ), what an expression gives (EvG), how a block runs (Run) -/
namespace K30
open PySem PySem.Spec PyProof.Rows L2
/-! ### what of a heap stays -/
abbrev Pd := V → Hp → Prop
def Lode (l : Addr) (H : Hp) : Prop := ∃ a b c : Int, H l = some (.lst [.int a, .int b, .int c])
def Lo : Option Addr → Hp → Prop
  | none, _ => True
  | some l, H => Lode l H
def Up : Option Addr → Hp → Hp → Prop
  | none, H, H' => Same H H'
  | some l, H, H' => Lode l H' ∧ ∀ a o, a ≠ l → H a = some o → H' a = some o
section
variable {l : Option Addr} {H H1 H2 : Hp} {K : PySem.W.Frag}
theorem Up.refl (h : Lo l H) : Up l H H := by
  cases l with
  | none => exact Same.refl H
  | some l => exact ⟨h, fun _ _ _ e => e⟩
theorem Up.trans (a : Up l H H1) (b : Up l H1 H2) : Up l H H2 := by
  cases l with
  | none => exact Same.trans a b
  | some l => exact ⟨b.1, fun x o n e => b.2 x o n (a.2 x o n e)⟩
theorem Up.lo (a : Up l H H1) : Lo l H1 := by
  cases l with
  | none => trivial
  | some l => exact a.1
theorem Up.same (h : Lo l H) (s : Same H H1) : Up l H H1 := by
  cases l with
  | none => exact s
  | some l =>
    obtain ⟨a, b, c, e⟩ := h
    exact ⟨⟨a, b, c, s _ _ e⟩, fun x o _ e => s x o e⟩
theorem Up.at (h : Lo l H) (u : Up l H H1) {a : Addr} {o : HO} (e : H a = some o) (n : ∀ xs, o ≠ .lst xs) : H1 a = some o := by
  cases l with
  | none => exact u a o e
  | some l =>
    refine u.2 a o (fun z => ?_) e
    obtain ⟨x, y, z', q⟩ := h
    rw [z, q] at e
    exact n _ (Option.some.inj e).symm
theorem Up.tup (h : Lo l H) (u : Up l H H1) {a : Addr} {xs : List V} (s : SqT K H a xs) : SqT K H1 a xs := by
  rcases s with (e | ⟨o, e⟩) | e
  · exact .inl (.inl (Up.at h u e fun _ z => by cases z))
  · exact .inl (.inr ⟨o, Up.at h u e fun _ z => by cases z⟩)
  · exact .inr e
theorem Same.new {p : Addr} {o : HO} (n : H p = none) : Same H (upd H p o) := fun b x e => by
  rw [upd_ne (ne_of_none e n)]
  exact e
theorem Same.sqT (s : Same H H1) {a : Addr} {xs : List V} (h : SqT K H a xs) : SqT K H1 a xs := Up.tup (l := none) trivial s h
/-- all but the thing at p, which H does not know -/
theorem Same.mut {p : Addr} {o : HO} (s : Same H H1) (n : H p = none) : Same H (upd H1 p o) := fun b x e => by
  rw [upd_ne (ne_of_none e n)]
  exact s b x e
end
/-! ### predicates of values -/
class Mo (l : Option Addr) (P : Pd) : Prop where
  mo : ∀ v H H', Lo l H → Up l H H' → P v H → P v H'
def AllP : List Pd → List V → Hp → Prop
  | [], [], _ => True
  | P :: Ps, v :: vs, H => P v H ∧ AllP Ps vs H
  | _, _, _ => False
class MoL (l : Option Addr) (Ps : List Pd) : Prop where
  mo : ∀ vs H H', Lo l H → Up l H H' → AllP Ps vs H → AllP Ps vs H'
def Box (l : Option Addr) (P : Pd) : Pd := fun v H => ∀ H', Up l H H' → P v H'
section
variable {l : Option Addr} {H H1 H2 : Hp} {K : PySem.W.Frag} {P : Pd} {Ps : List Pd} {v : V} {vs : List V}
instance MoL.nil : MoL l [] := ⟨fun vs H H' _ _ h => by cases vs <;> exact h⟩
instance MoL.cons [a : Mo l P] [b : MoL l Ps] : MoL l (P :: Ps) := ⟨fun vs H H' lo u h => by
  cases vs with
  | nil => exact h.elim
  | cons v vs => exact ⟨a.mo v H H' lo u h.1, b.mo vs H H' lo u h.2⟩⟩
theorem Box.up (u : Up l H H1) (b : Box l P v H) : Box l P v H1 := fun H' u' => b H' (u.trans u')
theorem Box.now (h : Lo l H) (b : Box l P v H) : P v H := b H (Up.refl h)
theorem box_of [m : Mo l P] (h : Lo l H) (p : P v H) : Box l P v H := fun H' u => m.mo v H H' h u p
def BoxL (l : Option Addr) : List Pd → List V → Hp → Prop
  | [], [], _ => True
  | P :: Ps, v :: vs, H => Box l P v H ∧ BoxL l Ps vs H
  | _, _, _ => False
theorem BoxL.up : ∀ {Ps : List Pd} {vs : List V}, Up l H H1 → BoxL l Ps vs H → BoxL l Ps vs H1
  | [], [], _, _ => trivial
  | [], _ :: _, _, h => h.elim
  | _ :: _, [], _, h => h.elim
  | _ :: _, _ :: _, u, h => ⟨Box.up u h.1, BoxL.up u h.2⟩
theorem BoxL.now (lo : Lo l H) : ∀ {Ps : List Pd} {vs : List V}, BoxL l Ps vs H → AllP Ps vs H
  | [], [], _ => trivial
  | [], _ :: _, h => h.elim
  | _ :: _, [], h => h.elim
  | _ :: _, _ :: _, h => ⟨Box.now lo h.1, BoxL.now lo h.2⟩
theorem AllP.len : ∀ {Ps : List Pd} {vs : List V}, AllP Ps vs H → vs.length = Ps.length
  | [], [], _ => rfl
  | [], _ :: _, h => h.elim
  | _ :: _, [], h => h.elim
  | _ :: _, _ :: _, h => congrArg (· + 1) (AllP.len h.2)
theorem AllP.at : ∀ {Ps : List Pd} {vs : List V} {i : Nat} {P : Pd}, AllP Ps vs H → Ps[i]? = some P → ∃ v, vs[i]? = some v ∧ P v H
  | [], _, _, _, _, e => by simp at e
  | _ :: _, [], _, _, h, _ => h.elim
  | _ :: _, v :: _, 0, P, h, e => by
    simp at e
    subst e
    exact ⟨v, rfl, h.1⟩
  | _ :: Ps, _ :: vs, i + 1, P, h, e => by
    obtain ⟨v, e1, e2⟩ := AllP.at (i := i) (P := P) h.2 (by simpa using e)
    exact ⟨v, by simpa using e1, e2⟩
end
section
variable {H : Hp} {P P' P'' : Pd} {vs : List V}
theorem AllP.none (h : AllP [] vs H) : vs = [] := by
  cases vs with
  | nil => rfl
  | cons v r => exact h.elim
theorem AllP.one (h : AllP [P] vs H) : ∃ x, vs = [x] ∧ P x H := by
  cases vs with
  | nil => exact h.elim
  | cons v r =>
    obtain ⟨p, h⟩ := h
    exact ⟨v, by rw [AllP.none h], p⟩
theorem AllP.two (h : AllP [P, P'] vs H) : ∃ x y, vs = [x, y] ∧ P x H ∧ P' y H := by
  cases vs with
  | nil => exact h.elim
  | cons v r =>
    obtain ⟨p, h⟩ := h
    obtain ⟨y, e, q⟩ := AllP.one h
    exact ⟨v, y, by rw [e], p, q⟩
theorem AllP.three (h : AllP [P, P', P''] vs H) : ∃ x y z, vs = [x, y, z] ∧ P x H ∧ P' y H ∧ P'' z H := by
  cases vs with
  | nil => exact h.elim
  | cons v r =>
    obtain ⟨p, h⟩ := h
    obtain ⟨y, z, e, q⟩ := AllP.two h
    exact ⟨v, y, z, by rw [e], p, q⟩
end
/-! ### what is known of the slots -/
abbrev Ga := List (Option Pd)
def gt : Ga → Nat → Option Pd
  | [], _ => none
  | o :: _, 0 => o
  | _ :: Γ, i + 1 => gt Γ i
def pt : Ga → Nat → Option Pd → Ga
  | [], _, _ => []
  | _ :: Γ, 0, o => o :: Γ
  | o :: Γ, i + 1, u => o :: pt Γ i u
def FitL (l : Option Addr) : Ga → L2.St → Hp → Prop
  | [], [], _ => True
  | none :: Γ, _ :: σ, H => FitL l Γ σ H
  | some P :: Γ, some v :: σ, H => Box l P v H ∧ FitL l Γ σ H
  | _, _, _ => False
def Fits (l : Option Addr) (Γ : Ga) (σ : L2.St) (H : Hp) : Prop := Lo l H ∧ FitL l Γ σ H
section
variable {l : Option Addr} {H H1 H2 : Hp} {K : PySem.W.Frag} {P : Pd} {Ps : List Pd} {v : V} {vs : List V} {Γ : Ga} {σ : L2.St}
theorem FitL.up : ∀ {Γ : Ga} {σ : L2.St}, Up l H H1 → FitL l Γ σ H → FitL l Γ σ H1
  | [], [], _, _ => trivial
  | [], _ :: _, _, h => h.elim
  | none :: _, [], _, h => h.elim
  | some _ :: _, [], _, h => h.elim
  | some _ :: _, none :: _, _, h => h.elim
  | none :: Γ, _ :: σ, u, h => by
    have h' : FitL l Γ σ H := h
    show FitL l Γ σ H1
    exact FitL.up u h'
  | some _ :: _, some _ :: _, u, h => ⟨Box.up u h.1, FitL.up u h.2⟩
theorem Fits.up (u : Up l H H1) (f : Fits l Γ σ H) : Fits l Γ σ H1 := ⟨u.lo, FitL.up u f.2⟩
theorem FitL.get : ∀ {Γ : Ga} {σ : L2.St} {i : Nat} {P : Pd}, FitL l Γ σ H → gt Γ i = some P → ∃ v, σ[i]? = some (some v) ∧ Box l P v H
  | [], _, _, _, _, e => by cases e
  | none :: _, [], _, _, h, _ => h.elim
  | some _ :: _, [], _, _, h, _ => h.elim
  | some _ :: _, none :: _, _, _, h, _ => h.elim
  | none :: _, _ :: _, 0, _, _, e => by cases e
  | none :: Γ, _ :: σ, i + 1, P, h, e => by
    have h' : FitL l Γ σ H := h
    obtain ⟨v, e1, e2⟩ := FitL.get (i := i) (P := P) h' e
    exact ⟨v, by simpa using e1, e2⟩
  | some _ :: _, some v :: _, 0, P, h, e => by
    cases e
    exact ⟨v, rfl, h.1⟩
  | some _ :: Γ, some _ :: σ, i + 1, P, h, e => by
    obtain ⟨v, e1, e2⟩ := FitL.get (i := i) (P := P) h.2 e
    exact ⟨v, by simpa using e1, e2⟩
theorem FitL.put : ∀ {Γ : Ga} {σ : L2.St} {i : Nat}, FitL l Γ σ H → Box l P v H → FitL l (pt Γ i (some P)) (σ.set i (some v)) H
  | [], [], _, _, _ => trivial
  | [], _ :: _, _, h, _ => h.elim
  | none :: _, [], _, h, _ => h.elim
  | some _ :: _, [], _, h, _ => h.elim
  | some _ :: _, none :: _, _, h, _ => h.elim
  | none :: Γ, _ :: σ, 0, h, b => by
    have h' : FitL l Γ σ H := h
    exact ⟨b, h'⟩
  | none :: Γ, _ :: σ, i + 1, h, b => by
    have h' : FitL l Γ σ H := h
    show FitL l (pt Γ i (some P)) (σ.set i (some v)) H
    exact FitL.put h' b
  | some _ :: _, some _ :: _, 0, h, b => ⟨b, h.2⟩
  | some _ :: Γ, some _ :: σ, i + 1, h, b => ⟨h.1, FitL.put h.2 b⟩
theorem Fits.put {i : Nat} (f : Fits l Γ σ H) (b : Box l P v H) : Fits l (pt Γ i (some P)) (σ.set i (some v)) H := ⟨f.1, FitL.put f.2 b⟩
/-- what is known may be forgotten -/
def Wk : Ga → Ga → Prop
  | [], [] => True
  | _ :: Γ, none :: Δ => Wk Γ Δ
  | o :: Γ, some P :: Δ => o = some P ∧ Wk Γ Δ
  | _, _ => False
theorem FitL.weak : ∀ {Γ Δ : Ga} {σ : L2.St}, Wk Γ Δ → FitL l Γ σ H → FitL l Δ σ H
  | [], [], [], _, _ => trivial
  | [], [], _ :: _, _, h => h.elim
  | [], _ :: _, _, w, _ => w.elim
  | _ :: _, [], _, w, _ => w.elim
  | none :: _, _, [], _, h => h.elim
  | some _ :: _, _, [], _, h => h.elim
  | some _ :: _, _, none :: _, _, h => h.elim
  | none :: Γ, none :: Δ, _ :: σ, w, h => by
    have w' : Wk Γ Δ := w
    have h' : FitL l Γ σ H := h
    show FitL l Δ σ H
    exact FitL.weak w' h'
  | some _ :: Γ, none :: Δ, some _ :: σ, w, h => by
    have w' : Wk Γ Δ := w
    show FitL l Δ σ H
    exact FitL.weak w' h.2
  | none :: _, some _ :: _, _, w, _ => by cases w.1
  | some _ :: Γ, some _ :: Δ, some _ :: σ, w, h => by
    obtain ⟨e, w'⟩ := w
    cases e
    exact ⟨h.1, FitL.weak w' h.2⟩
theorem Fits.weak {Δ : Ga} (w : Wk Γ Δ) (f : Fits l Γ σ H) : Fits l Δ σ H := ⟨f.1, FitL.weak w f.2⟩
end
/-! ### what expressions give -/
def EvG (l : Option Addr) (te : TE) (Γ : Ga) (P : Pd) : Prop := ∀ σ H Q, Fits l Γ σ H → (∀ v H', Up l H H' → Box l P v H' → Q v H') → te σ H Q
def EvA (l : Option Addr) (ta : TA) (Γ : Ga) (Ps : List Pd) : Prop := ∀ σ H Q, Fits l Γ σ H → (∀ vs H', Up l H H' → BoxL l Ps vs H' → Q vs H') → ta σ H Q
def EvT (l : Option Addr) (tt : TT) (Γ : Ga) (b : Bool) : Prop := ∀ σ H Q, Fits l Γ σ H → (∀ H', Up l H H' → Q b H') → tt σ H Q
/-- the value v -/
def pV (v : V) : Pd := fun x _ => x = v
instance {l : Option Addr} {v : V} : Mo l (pV v) := ⟨fun _ _ _ _ _ h => h⟩
/-- a tuple of these -/
def pT (K : PySem.W.Frag) (Ps : List Pd) : Pd := fun v H => ∃ a vs, v = .ref a ∧ SqT K H a vs ∧ AllP Ps vs H
instance {l : Option Addr} {K : PySem.W.Frag} {Ps : List Pd} [m : MoL l Ps] : Mo l (pT K Ps) := ⟨fun _ H H' lo u ⟨a, vs, e, s, p⟩ => ⟨a, vs, e, Up.tup lo u s, m.mo vs H H' lo u p⟩⟩
/-- some of these -/
def pX {α : Type} (C : α → Prop) (f : α → Pd) : Pd := fun v H => ∃ x, C x ∧ f x v H
instance {l : Option Addr} {α : Type} {C : α → Prop} {f : α → Pd} [m : ∀ x, Mo l (f x)] : Mo l (pX C f) := ⟨fun v H H' lo u ⟨x, c, p⟩ => ⟨x, c, (m x).mo v H H' lo u p⟩⟩
/-- a list of these (none but lists that stay) -/
def pL (K : PySem.W.Frag) (Ps : List Pd) : Pd := fun v H => ∃ a vs, v = .ref a ∧ SqL K H a vs ∧ AllP Ps vs H
instance {K : PySem.W.Frag} {Ps : List Pd} [m : MoL none Ps] : Mo none (pL K Ps) := ⟨fun _ H H' lo u ⟨a, vs, e, s, p⟩ => ⟨a, vs, e, Same.seq u s, m.mo vs H H' lo u p⟩⟩
section
variable {l : Option Addr} {Γ : Ga} {K : PySem.W.Frag} {P P' R : Pd} {Ps : List Pd} {te ta tb : TE} {tt tu : TT} {t : TA} {i : Nat} {v x y z : V} {b c : Bool} {m n : Int}
theorem EvG.imp [mo : Mo l P'] (h : EvG l te Γ P) (w : ∀ v H, P v H → P' v H) : EvG l te Γ P' := fun σ H Q f q => h σ H Q f fun v H' u bx => q v H' u (box_of u.lo (w v H' (Box.now u.lo bx)))
theorem e_var (h : gt Γ i = some P) : EvG l (tVar i) Γ P := fun σ H Q f q => by
  obtain ⟨v, e, bx⟩ := FitL.get f.2 h
  exact ⟨v, e, q v H (Up.refl f.1) bx⟩
theorem e_c : EvG l (tC v) Γ (pV v) := fun σ H Q f q => q v H (Up.refl f.1) (box_of f.1 rfl)
theorem e_cP [mo : Mo l P] (h : ∀ H, P v H) : EvG l (tC v) Γ P := fun σ H Q f q => q v H (Up.refl f.1) (box_of f.1 (h H))
theorem a_nil : EvA l tNil Γ [] := fun σ H Q f q => q [] H (Up.refl f.1) trivial
theorem a_cons (h : EvG l te Γ P) (r : EvA l t Γ Ps) : EvA l (tCons te t) Γ (P :: Ps) := fun σ H Q f q =>
  h σ H _ f fun v H1 u1 b1 => r σ H1 _ (f.up u1) fun vs H2 u2 b2 => q (v :: vs) H2 (u1.trans u2) ⟨Box.up u2 b1, b2⟩
theorem e_tup (h : EvA l t Γ Ps) (hl : Ps.length ≤ 1000 := by first | decide | simp) : EvG l (tTup t) Γ (pT K Ps) := fun σ H Q f q =>
  h σ H _ f fun vs H1 u1 b1 => by
    have len := AllP.len (BoxL.now u1.lo b1)
    refine ⟨Nat.le_of_lt (small1000 (by omega)), fun p np => ?_⟩
    have u2 : Up l H1 (upd H1 p (.tup vs)) := Up.same u1.lo (Same.new np)
    exact q _ _ (u1.trans u2) fun H' u' => ⟨p, vs, rfl, Up.tup u2.lo u' (.inl (.inl upd_same)), BoxL.now u'.lo (BoxL.up u' (BoxL.up u2 b1))⟩
/-- a def without any say over the lode -/
theorem e_call {sp : Sp} [mo : Mo l R] (h : ∀ vs H Q, AllP Ps vs H → (∀ v H', Same H H' → R v H' → Q v H') → sp vs H Q E0) (ha : EvA l t Γ Ps) : EvG l (tCall sp [] E0 t) Γ R := fun σ H Q f q =>
  ha σ H _ f fun vs H1 u1 b1 => by
    show sp (vs ++ []) H1 Q E0
    rw [List.append_nil]
    refine h vs H1 Q (BoxL.now u1.lo b1) fun v H2 s r => ?_
    have u2 : Up l H1 H2 := Up.same u1.lo s
    exact q v H2 (u1.trans u2) (box_of u2.lo r)
/-- a def that draws -/
theorem e_callL {sp : Sp} {a : Addr} [mo : Mo (some a) R] (h : ∀ vs H Q, Lode a H → AllP Ps vs H → (∀ v H', Up (some a) H H' → R v H' → Q v H') → sp vs H Q E0) (ha : EvA (some a) t Γ Ps) : EvG (some a) (tCall sp [] E0 t) Γ R := fun σ H Q f q =>
  ha σ H _ f fun vs H1 u1 b1 => by
    show sp (vs ++ []) H1 Q E0
    rw [List.append_nil]
    refine h vs H1 Q u1.lo (BoxL.now u1.lo b1) fun v H2 u2 r => ?_
    exact q v H2 (u1.trans u2) (box_of u2.lo r)
/-- a built-in on values that makes nothing -/
theorem e_cb {r : List V → Hp → VK → Prop} [mo : Mo l R] (h : ∀ vs H Q, AllP Ps vs H → (∀ v H', Same H H' → R v H' → Q v H') → r vs H Q) (ha : EvA l t Γ Ps) : EvG l (tCB r t) Γ R := fun σ H Q f q =>
  ha σ H _ f fun vs H1 u1 b1 => by
    refine h vs H1 Q (BoxL.now u1.lo b1) fun v H2 s r => ?_
    have u2 : Up l H1 H2 := Up.same u1.lo s
    exact q v H2 (u1.trans u2) (box_of u2.lo r)
theorem e_op {r : R2} [mo : Mo l R] (h : ∀ x y H Q, P x H → P' y H → (∀ v H', Same H H' → R v H' → Q v H') → r x y H Q) (ha : EvG l ta Γ P) (hb : EvG l tb Γ P') : EvG l (tOp r ta tb) Γ R := fun σ H Q f q =>
  ha σ H _ f fun x H1 u1 b1 => hb σ H1 _ (f.up u1) fun y H2 u2 b2 => h x y H2 Q (Box.now u2.lo (Box.up u2 b1)) (Box.now u2.lo b2) fun v H3 s r => by
    have u3 : Up l H2 H3 := Up.same u2.lo s
    exact q v H3 ((u1.trans u2).trans u3) (box_of u3.lo r)
theorem e_un {r : V → Hp → VK → Prop} [mo : Mo l R] (h : ∀ x H Q, P x H → (∀ v H', Same H H' → R v H' → Q v H') → r x H Q) (ha : EvG l ta Γ P) : EvG l (tUn r ta) Γ R := fun σ H Q f q =>
  ha σ H _ f fun x H1 u1 b1 => h x H1 Q (Box.now u1.lo b1) fun v H2 s r => by
    have u2 : Up l H1 H2 := Up.same u1.lo s
    exact q v H2 (u1.trans u2) (box_of u2.lo r)
theorem e_I0 {g : Int → Int → V} (ha : EvG l ta Γ (pV (.int m))) (hb : EvG l tb Γ (pV (.int n))) : EvG l (tOp (rI0 g) ta tb) Γ (pV (g m n)) :=
  e_op (fun x y H Q hx hy k => ⟨m, n, hx, hy, k _ H (Same.refl H) rfl⟩) ha hb
theorem e_I {C : Int → Int → Prop} {g : Int → Int → V} (hc : C m n) (ha : EvG l ta Γ (pV (.int m))) (hb : EvG l tb Γ (pV (.int n))) : EvG l (tOp (rI C g) ta tb) Γ (pV (g m n)) :=
  e_op (fun x y H Q hx hy k => ⟨m, n, hx, hy, hc, k _ H (Same.refl H) rfl⟩) ha hb
theorem e_neg (ha : EvG l ta Γ (pV (.int m))) : EvG l (tUn (rU fun i => .int (-i)) ta) Γ (pV (.int (-m))) := e_un (fun x H Q hx k => ⟨m, hx, k _ H (Same.refl H) rfl⟩) ha
theorem e_eq (hs : scal x y = true) (ha : EvG l ta Γ (pV x)) (hb : EvG l tb Γ (pV y)) : EvG l (tOp rEq ta tb) Γ (pV (.bl (decide (x = y)))) :=
  e_op (fun u w H Q hx hy k => by
    have e1 : u = x := hx
    have e2 : w = y := hy
    subst e1 e2
    exact ⟨hs, k _ H (Same.refl H) rfl⟩) ha hb
theorem e_ne (hs : scal x y = true) (ha : EvG l ta Γ (pV x)) (hb : EvG l tb Γ (pV y)) : EvG l (tOp rNe ta tb) Γ (pV (.bl (!decide (x = y)))) :=
  e_op (fun u w H Q hx hy k => by
    have e1 : u = x := hx
    have e2 : w = y := hy
    subst e1 e2
    exact ⟨hs, k _ H (Same.refl H) rfl⟩) ha hb
/-- t[i], i written -/
theorem e_ixT [mo : Mo l P] (hp : Ps[i]? = some P) (ha : EvG l ta Γ (pT K Ps)) : EvG l (tOp (rIxT K) ta (tC (.int (i : Int)))) Γ P :=
  e_op (P := pT K Ps) (P' := pV (.int (i : Int))) (fun x y H Q hx hy k => by
    obtain ⟨a, vs, e, s, p⟩ := hx
    obtain ⟨v, e1, e2⟩ := AllP.at p hp
    have e3 : y = .int (i : Int) := hy
    exact ⟨a, vs, (i : Int), v, e, e3, s, atI_nat e1, k v H (Same.refl H) e2⟩) ha e_c
theorem e_at (i : Nat) (ha : EvG l ta Γ (pT K Ps)) (hp : Ps[i]? = some P) [mo : Mo l P] : EvG l (tOp (rIxT K) ta (tC (.int (i : Int)))) Γ P := e_ixT hp ha
theorem e_ixL [mo : Mo l P] (hp : Ps[i]? = some P) (ha : EvG l ta Γ (pL K Ps)) : EvG l (tOp (rIxL K) ta (tC (.int (i : Int)))) Γ P :=
  e_op (P := pL K Ps) (P' := pV (.int (i : Int))) (fun x y H Q hx hy k => by
    obtain ⟨a, vs, e, s, p⟩ := hx
    obtain ⟨v, e1, e2⟩ := AllP.at p hp
    have e3 : y = .int (i : Int) := hy
    exact ⟨a, vs, (i : Int), v, e, e3, s, atI_nat e1, k v H (Same.refl H) e2⟩) ha e_c
/-! tests -/
theorem t_of (h : EvG l te Γ (pV (.bl b))) : EvT l (tTest te) Γ b := fun σ H Q f q => h σ H _ f fun v H1 u bx => ⟨b, Box.now u.lo bx, q H1 u⟩
theorem t_B (h : EvG l te Γ (pV (.bl b))) : EvT l (tB te) Γ b := fun σ H Q f q => h σ H _ f fun v H1 u bx => ⟨b, Box.now u.lo bx, q H1 u⟩
theorem t_is (h : EvT l tt Γ b) (e : b = c) : EvT l tt Γ c := e ▸ h
theorem t_not (h : EvT l tt Γ b) : EvT l (tNot tt) Γ (!b) := fun σ H Q f q => h σ H _ f fun H1 u => q H1 u
theorem t_and (h : EvT l tt Γ b) (h2 : b = true → EvT l tu Γ c) : EvT l (tAnd tt tu) Γ (b && c) := fun σ H Q f q => h σ H _ f fun H1 u => by
  cases b with
  | true =>
    rw [if_pos rfl]
    exact h2 rfl σ H1 Q (f.up u) fun H2 u2 => q H2 (u.trans u2)
  | false =>
    rw [if_neg Bool.false_ne_true]
    exact q H1 u
theorem t_or (h : EvT l tt Γ b) (h2 : b = false → EvT l tu Γ c) : EvT l (tOr tt tu) Γ (b || c) := fun σ H Q f q => h σ H _ f fun H1 u => by
  cases b with
  | true =>
    rw [if_pos rfl]
    exact q H1 u
  | false =>
    rw [if_neg Bool.false_ne_true]
    exact h2 rfl σ H1 Q (f.up u) fun H2 u2 => q H2 (u.trans u2)
theorem e_and (h : EvG l ta Γ (pV (.bl b))) (h2 : b = true → EvG l tb Γ (pV (.bl c))) : EvG l (tAndV ta tb) Γ (pV (.bl (b && c))) := fun σ H Q f q => h σ H _ f fun v H1 u bx => ⟨b, Box.now u.lo bx, by
  cases b with
  | true =>
    rw [if_pos rfl]
    exact h2 rfl σ H1 Q (f.up u) fun w H2 u2 b2 => q w H2 (u.trans u2) b2
  | false =>
    rw [if_neg Bool.false_ne_true]
    exact q _ H1 u (box_of u.lo rfl)⟩
theorem e_notV (h : EvG l ta Γ (pV (.bl b))) : EvG l (tNotV ta) Γ (pV (.bl (!b))) := fun σ H Q f q => h σ H _ f fun v H1 u bx => ⟨b, Box.now u.lo bx, q _ H1 u (box_of u.lo rfl)⟩
theorem e_if (h : EvT l tt Γ b) (h1 : b = true → EvG l ta Γ P) (h2 : b = false → EvG l tb Γ P) : EvG l (tIf tt ta tb) Γ P := fun σ H Q f q => h σ H _ f fun H1 u => by
  cases b with
  | true =>
    rw [if_pos rfl]
    exact h1 rfl σ H1 Q (f.up u) fun w H2 u2 b2 => q w H2 (u.trans u2) b2
  | false =>
    rw [if_neg Bool.false_ne_true]
    exact h2 rfl σ H1 Q (f.up u) fun w H2 u2 b2 => q w H2 (u.trans u2) b2
theorem e_ifT (h : EvT l tt Γ true) (h1 : EvG l ta Γ P) : EvG l (tIf tt ta tb) Γ P := e_if h (fun _ => h1) fun z => by cases z
theorem e_ifF (h : EvT l tt Γ false) (h1 : EvG l tb Γ P) : EvG l (tIf tt ta tb) Γ P := e_if h (fun z => by cases z) fun _ => h1
theorem e_isN (ha : EvG l ta Γ (pV x)) : EvG l (tIsN ta) Γ (pV (.bl (decide (x = .non)))) := fun σ H Q f q => ha σ H _ f fun v H1 u bx => by
  have e : v = x := Box.now u.lo bx
  subst e
  exact q _ H1 u (box_of u.lo rfl)
end
/-! ### statements -/
def Run (l : Option Addr) (H0 : Hp) (t : TS) (D : Ends) (Γ : Ga) : Prop := ∀ σ H, Up l H0 H → Fits l Γ σ H → t D σ H
section
variable {l : Option Addr} {H0 : Hp} {Γ Δ : Ga} {D : Ends} {K : PySem.W.Frag} {P P' R : Pd} {Ps : List Pd} {te ta tb : TE} {tt tu : TT} {t u : TS} {tr : TA} {i j k : Nat} {b c : Bool}
theorem r_ret (h : EvG l te Γ P) (q : ∀ v H, Up l H0 H → Box l P v H → D.rt v H) : Run l H0 (tRet te) D Γ := fun σ H u f => h σ H _ f fun v H1 u1 bx => q v H1 (u.trans u1) bx
theorem r_set (h : EvG l te Γ P) (r : Run l H0 t D (pt Γ i (some P))) : Run l H0 (tSeq (tAsg te (gName i)) t) D Γ := fun σ H u f =>
  h σ H _ f fun v H1 u1 bx => r _ H1 (u.trans u1) ((f.up u1).put bx)
theorem r_setX {α : Type} {C : α → Prop} {g : α → Pd} (m : ∀ x, Mo l (g x)) (h : EvG l te Γ (pX C g)) (r : ∀ x, C x → Run l H0 t D (pt Γ i (some (g x)))) : Run l H0 (tSeq (tAsg te (gName i)) t) D Γ := fun σ H u f =>
  h σ H _ f fun v H1 u1 bx => by
    obtain ⟨x, c, p⟩ := Box.now u1.lo bx
    have := m x
    exact r x c _ H1 (u.trans u1) ((f.up u1).put (box_of u1.lo p))
theorem r_if {a d : TS} (h : EvT l tt Γ b) (h1 : b = true → Run l H0 a { D with nx := t D } Γ) (h2 : b = false → Run l H0 d { D with nx := t D } Γ) : Run l H0 (tSeq (tIfS tt a d) t) D Γ := fun σ H u f =>
  h σ H _ f fun H1 u1 => by
    cases b with
    | true =>
      rw [if_pos rfl]
      exact h1 rfl σ H1 (u.trans u1) (f.up u1)
    | false =>
      rw [if_neg Bool.false_ne_true]
      exact h2 rfl σ H1 (u.trans u1) (f.up u1)
theorem r_ifF {a : TS} (h : EvT l tt Γ false) (r : Run l H0 t D Γ) : Run l H0 (tSeq (tIfS tt a tNext) t) D Γ := r_if h (fun z => by cases z) fun _ σ H u f => r σ H u f
theorem r_next (r : ∀ σ H, Up l H0 H → Fits l Γ σ H → D.nx σ H) : Run l H0 tNext D Γ := fun σ H u f => r σ H u f
theorem r_weak (w : Wk Γ Δ) (r : Run l H0 t D Δ) : Run l H0 t D Γ := fun σ H u f => r σ H u (f.weak w)
theorem r_drop (h : EvG l te Γ P) (r : Run l H0 t D Γ) : Run l H0 (tSeq (tDrop te) t) D Γ := fun σ H u f => h σ H _ f fun v H1 u1 bx => r σ H1 (u.trans u1) (f.up u1)
theorem r_par (h : EvA l tr Γ [P, P']) (r : Run l H0 t D (pt (pt Γ i (some P)) j (some P'))) : Run l H0 (tSeq (tPar i j tr) t) D Γ := fun σ H u f =>
  h σ H _ f fun vs H1 u1 bx => by
    match vs, bx with
    | [v, w], bx => exact ⟨v, w, rfl, r _ H1 (u.trans u1) (((f.up u1).put bx.1).put bx.2.1)⟩
theorem r_par3 (h : EvA l tr Γ [P, P', R]) (r : Run l H0 t D (pt (pt (pt Γ i (some P)) j (some P')) k (some R))) : Run l H0 (tSeq (tPar3 i j k tr) t) D Γ := fun σ H u f =>
  h σ H _ f fun vs H1 u1 bx => by
    match vs, bx with
    | [v, w, z], bx => exact ⟨v, w, z, rfl, r _ H1 (u.trans u1) ((((f.up u1).put bx.1).put bx.2.1).put bx.2.2.1)⟩
/-! targets: what they store -/
def Tgt (l : Option Addr) (g : TG) (P : Pd) (Γ Δ : Ga) : Prop := ∀ v σ H Q, Fits l Γ σ H → Box l P v H → (∀ σ', Fits l Δ σ' H → Q σ' H) → g v σ H Q
def Tgts (l : Option Addr) (g : TGs) (Ps : List Pd) (Γ Δ : Ga) : Prop := ∀ vs σ H Q, Fits l Γ σ H → BoxL l Ps vs H → (∀ σ', Fits l Δ σ' H → Q σ' H) → g vs σ H Q
theorem g_name : Tgt l (gName i) P Γ (pt Γ i (some P)) := fun v σ H Q f b q => q _ (f.put b)
theorem gs_nil : Tgts l gNil [] Γ Γ := fun vs σ H Q f b q => by
  cases vs with
  | nil => exact ⟨rfl, q σ f⟩
  | cons _ _ => exact b.elim
theorem gs_cons {g : TG} {gs : TGs} {Γ1 Γ2 : Ga} (h : Tgt l g P Γ Γ1) (hs : Tgts l gs Ps Γ1 Γ2) : Tgts l (gCons g gs) (P :: Ps) Γ Γ2 := fun vs σ H Q f b q => by
  cases vs with
  | nil => exact b.elim
  | cons v vs => exact ⟨v, vs, rfl, h v σ H _ f b.1 fun σ1 f1 => hs vs σ1 H Q f1 b.2 q⟩
theorem boxL_of [m : MoL l Ps] {H : Hp} : ∀ {vs : List V}, Lo l H → AllP Ps vs H → BoxL l Ps vs H := by
  have gen : ∀ (Qs : List Pd) (vs : List V), (∀ H', Up l H H' → AllP Qs vs H') → vs.length = Qs.length → BoxL l Qs vs H := by
    intro Qs
    induction Qs with
    | nil =>
      intro vs h e
      cases vs with
      | nil => trivial
      | cons _ _ => cases e
    | cons Q Qs ih =>
      intro vs h e
      cases vs with
      | nil => cases e
      | cons v vs => exact ⟨fun H' u => (h H' u).1, ih vs (fun H' u => (h H' u).2) (Nat.succ.inj e)⟩
  intro vs lo p
  exact gen Ps vs (fun H' u => m.mo vs H H' lo u p) (AllP.len p)
theorem g_tup [m : MoL l Ps] {gs : TGs} {n : Nat} (hn : Ps.length = n) (h : Tgts l gs Ps Γ Δ) : Tgt l (gTup K n gs) (pT K Ps) Γ Δ := fun v σ H Q f b q => by
  obtain ⟨a, vs, e, s, p⟩ := Box.now f.1 b
  exact ⟨a, vs, e, s, (AllP.len p).trans hn, h vs σ H Q f (boxL_of f.1 p) q⟩
theorem g_unl [m : MoL none Ps] {gs : TGs} {n : Nat} (hn : Ps.length = n) (h : Tgts none gs Ps Γ Δ) : Tgt none (gUnl K n gs) (pL K Ps) Γ Δ := fun v σ H Q f b q => by
  obtain ⟨a, vs, e, s, p⟩ := Box.now f.1 b
  exact ⟨a, vs, e, s, (AllP.len p).trans hn, h vs σ H Q f (boxL_of f.1 p) q⟩
theorem r_asg {g : TG} (h : EvG l te Γ P) (hg : Tgt l g P Γ Δ) (r : Run l H0 t D Δ) : Run l H0 (tSeq (tAsg te g) t) D Γ := fun σ H u f =>
  h σ H _ f fun v H1 u1 bx => hg v σ H1 _ (f.up u1) bx fun σ' f' => r σ' H1 (u.trans u1) f'
end
end K30

/-! text: KMath -/
set_option linter.all false
set_option maxHeartbeats 4000000
/-! plain mathematics: fives, rows, what is not shown -/
namespace K30M
structure Fv where
  a : Rat
  b : Rat
  c : Rat
  d : Rat
  e : Rat
def Fv.W (f : Fv) : Rat := (1 + f.a * f.a) - (f.d * f.d + f.e * f.e)
def Fv.T1 (f : Fv) : Rat := (f.b + f.a * f.c) - (f.d * f.b + f.e * f.c)
def Fv.T2 (f : Fv) : Rat := (f.c + f.d * f.c) - (f.a * f.b + f.e * f.b)
def Fv.N (f : Fv) : Rat := f.T1 * f.T1 + f.T2 * f.T2
/-- forward and to starboard -/
def Fv.x (f : Fv) (c s : Rat) : Rat := f.b + ((1 + f.d) * c + (f.a - f.e) * s)
def Fv.y (f : Fv) (c s : Rat) : Rat := f.c + ((f.a + f.e) * c + (f.d - 1) * s)
theorem sq_nonneg (x : Rat) : 0 ≤ x * x := by
  rcases Rat.le_total (a := 0) (b := x) with h | h
  · exact Rat.mul_nonneg h h
  · have h2 : 0 ≤ -x := by grind
    have := Rat.mul_nonneg h2 h2
    grind
theorem sq_pos {x : Rat} (h : x ≠ 0) : 0 < x * x := by
  have := sq_nonneg x
  have h2 : x * x ≠ 0 := by
    intro z
    exact h (by rcases Rat.mul_eq_zero.mp z with q | q <;> exact q)
  grind
theorem sq_zero {x : Rat} (h : x * x ≤ 0) : x = 0 := by
  have h1 := sq_nonneg x
  have h2 : x * x = 0 := by grind
  rcases Rat.mul_eq_zero.mp h2 with q | q <;> exact q
theorem two_sq {x y : Rat} (h : x * x + y * y = 0) : x = 0 ∧ y = 0 := by
  have h1 := sq_nonneg x
  have h2 := sq_nonneg y
  exact ⟨sq_zero (by grind), sq_zero (by grind)⟩
theorem nz_mul {x y : Rat} (h : x * y = 0) (hx : x ≠ 0) : y = 0 := by
  rcases Rat.mul_eq_zero.mp h with q | q
  · exact absurd q hx
  · exact q
theorem hull (f : Fv) (p q c0 s0 c s : Rat) (u0 : c0 * c0 + s0 * s0 = 1) (u : c * c + s * s = 1) (hN : f.W * f.W ≤ f.N) (ns : ¬ (f.W = 0 ∧ f.T1 = 0 ∧ f.T2 = 0))
    (h0 : f.x c0 s0 * q + f.y c0 s0 * p = 0) (k0 : 0 < f.x c0 s0 * p - f.y c0 s0 * q) (h1 : f.x c s * q + f.y c s * p = 0) : 0 ≤ f.x c s * p - f.y c s * q := by
  apply Classical.byContradiction
  intro hneg
  have k1 : f.x c s * p - f.y c s * q < 0 := by grind
  generalize hK0 : f.x c0 s0 * p - f.y c0 s0 * q = K0 at k0
  generalize hK1 : f.x c s * p - f.y c s * q = K1 at k1
  have hS : p * p + q * q ≠ 0 := by
    intro z
    obtain ⟨z1, z2⟩ := two_sq z
    rw [z1, z2] at hK0
    grind
  have e1 : f.x c0 s0 * (p * p + q * q) = K0 * p := by grind
  have e2 : f.y c0 s0 * (p * p + q * q) = -(K0 * q) := by grind
  have e3 : f.x c s * (p * p + q * q) = K1 * p := by grind
  have e4 : f.y c s * (p * p + q * q) = -(K1 * q) := by grind
  have e5 : f.x c s * K0 - f.x c0 s0 * K1 = 0 := nz_mul (x := p * p + q * q) (by grind) hS
  have e6 : f.y c s * K0 - f.y c0 s0 * K1 = 0 := nz_mul (x := p * p + q * q) (by grind) hS
  unfold Fv.x at e5
  unfold Fv.y at e6
  have e7 : f.T1 * (K0 - K1) = -(f.W * (K0 * c - K1 * c0)) := by
    unfold Fv.T1 Fv.W
    grind
  have e8 : f.T2 * (K0 - K1) = f.W * (K0 * s - K1 * s0) := by
    unfold Fv.T2 Fv.W
    grind
  have e9 : f.N * ((K0 - K1) * (K0 - K1)) = f.W * f.W * ((K0 * c - K1 * c0) * (K0 * c - K1 * c0) + (K0 * s - K1 * s0) * (K0 * s - K1 * s0)) := by
    have : f.N * ((K0 - K1) * (K0 - K1)) = (f.T1 * (K0 - K1)) * (f.T1 * (K0 - K1)) + (f.T2 * (K0 - K1)) * (f.T2 * (K0 - K1)) := by
      unfold Fv.N
      grind
    rw [this, e7, e8]
    grind
  have e10 : (K0 - K1) * (K0 - K1) - ((K0 * c - K1 * c0) * (K0 * c - K1 * c0) + (K0 * s - K1 * s0) * (K0 * s - K1 * s0)) = K0 * (-K1) * ((c - c0) * (c - c0) + (s - s0) * (s - s0)) := by grind
  have gap : (c - c0) * (c - c0) + (s - s0) * (s - s0) ≠ 0 := by
    intro z
    obtain ⟨z1, z2⟩ := two_sq z
    have ec : c = c0 := by grind
    have es : s = s0 := by grind
    subst ec es
    grind
  have gp : 0 < (c - c0) * (c - c0) + (s - s0) * (s - s0) := by
    have := sq_nonneg (c - c0)
    have := sq_nonneg (s - s0)
    grind
  have kp : 0 < K0 * (-K1) := Rat.mul_pos k0 (by grind)
  have dp : 0 < (K0 - K1) * (K0 - K1) - ((K0 * c - K1 * c0) * (K0 * c - K1 * c0) + (K0 * s - K1 * s0) * (K0 * s - K1 * s0)) := by
    rw [e10]
    exact Rat.mul_pos kp gp
  generalize hG : (K0 * c - K1 * c0) * (K0 * c - K1 * c0) + (K0 * s - K1 * s0) * (K0 * s - K1 * s0) = G at *
  generalize hM : (K0 - K1) * (K0 - K1) = M at *
  have hM0 : 0 ≤ M := by
    rw [← hM]
    exact sq_nonneg _
  have e11 : f.W * f.W * M ≤ f.N * M := Rat.mul_le_mul_of_nonneg_right hN hM0
  have e12 : f.W * f.W * (M - G) ≤ 0 := by grind
  have hW : f.W = 0 := by
    apply Classical.byContradiction
    intro w
    have := Rat.mul_pos (sq_pos w) dp
    grind
  rw [hW] at e7 e8
  have km : K0 - K1 ≠ 0 := by grind
  have t1 : f.T1 = 0 := nz_mul (x := K0 - K1) (by grind) km
  have t2 : f.T2 = 0 := nz_mul (x := K0 - K1) (by grind) km
  exact ns ⟨hW, t1, t2⟩
/-- along one line through 0 -/
theorem flat (f : Fv) (hW : f.W = 0) (h1 : f.T1 = 0) (h2 : f.T2 = 0) (c0 s0 : Rat) :
    f.b * f.y c0 s0 = f.c * f.x c0 s0 ∧ (1 + f.d) * f.y c0 s0 = (f.a + f.e) * f.x c0 s0 ∧ (f.a - f.e) * f.y c0 s0 = (f.d - 1) * f.x c0 s0 := by
  unfold Fv.W at hW
  unfold Fv.T1 at h1
  unfold Fv.T2 at h2
  unfold Fv.x Fv.y
  refine ⟨?_, ?_, ?_⟩ <;> grind
/-- some force at north, east, south or west -/
theorem force (f : Fv) : ¬ (f.x 1 0 = 0 ∧ f.y 1 0 = 0 ∧ f.x 0 1 = 0 ∧ f.y 0 1 = 0 ∧ f.x (-1) 0 = 0 ∧ f.y (-1) 0 = 0 ∧ f.x 0 (-1) = 0 ∧ f.y 0 (-1) = 0) := by
  unfold Fv.x Fv.y
  intro ⟨h1, h2, h3, h4, h5, h6, h7, h8⟩
  grind
/-! ### a course that is hidden -/
/-- rows lk + ll c + lm s (across) and sk + sl c + sm s (along): no heading on the first one has the second above 0 -/
structure Hid (lk ll lm sk sl sm : Rat) : Prop where
  nz : ¬ (ll = 0 ∧ lm = 0)
  alt : (sk = 0 ∧ sl = 0 ∧ sm = 0) ∨ ∃ c0 s0, c0 * c0 + s0 * s0 = 1 ∧ lk + (ll * c0 + lm * s0) = 0 ∧ ∀ c s, c * c + s * s = 1 → lk + (ll * c + lm * s) = 0 → sk + (sl * c + sm * s) ≤ 0
/-- the rows of a five and a course -/
def Hide (f : Fv) (p q : Rat) : Prop := Hid (q * f.b + p * f.c) (q * (1 + f.d) + p * (f.a + f.e)) (q * (f.a - f.e) + p * (f.d - 1)) (p * f.b + (-q) * f.c) (p * (1 + f.d) + (-q) * (f.a + f.e)) (p * (f.a - f.e) + (-q) * (f.d - 1))
theorem Hid.back {lk ll lm sk sl sm : Rat} (h : Hid lk ll lm sk sl sm) : Hid lk (-ll) (-lm) sk (-sl) (-sm) := by
  refine ⟨fun ⟨z1, z2⟩ => h.nz ⟨by grind, by grind⟩, ?_⟩
  rcases h.alt with ⟨z1, z2, z3⟩ | ⟨c0, s0, u, z, k⟩
  · exact .inl ⟨z1, by grind, by grind⟩
  · refine .inr ⟨-c0, -s0, by grind, by grind, fun c s u1 z1 => ?_⟩
    have := k (-c) (-s) (by grind) (by grind)
    grind
theorem Hide.back {f : Fv} {p q : Rat} (h : Hide f p q) : Hide ⟨f.a, -f.b, -f.c, f.d, f.e⟩ (-p) (-q) := by
  have := Hid.back h
  unfold Hide
  have e1 : -q * -f.b + -p * -f.c = q * f.b + p * f.c := by grind
  have e2 : -q * (1 + f.d) + -p * (f.a + f.e) = -(q * (1 + f.d) + p * (f.a + f.e)) := by grind
  have e3 : -q * (f.a - f.e) + -p * (f.d - 1) = -(q * (f.a - f.e) + p * (f.d - 1)) := by grind
  have e4 : -p * -f.b + -(-q) * -f.c = p * f.b + -q * f.c := by grind
  have e5 : -p * (1 + f.d) + -(-q) * (f.a + f.e) = -(p * (1 + f.d) + -q * (f.a + f.e)) := by grind
  have e6 : -p * (f.a - f.e) + -(-q) * (f.d - 1) = -(p * (f.a - f.e) + -q * (f.d - 1)) := by grind
  show Hid (-q * -f.b + -p * -f.c) (-q * (1 + f.d) + -p * (f.a + f.e)) (-q * (f.a - f.e) + -p * (f.d - 1)) (-p * -f.b + -(-q) * -f.c) (-p * (1 + f.d) + -(-q) * (f.a + f.e)) (-p * (f.a - f.e) + -(-q) * (f.d - 1))
  rw [e1, e2, e3, e4, e5, e6]
  exact this
/-- p, q along the force at a heading -/
structure Along (f : Fv) (c0 s0 p q : Rat) : Prop where
  un : c0 * c0 + s0 * s0 = 1
  ac : f.x c0 s0 * q + f.y c0 s0 * p = 0
  al : 0 < f.x c0 s0 * p - f.y c0 s0 * q
theorem hide_hull {f : Fv} {c0 s0 p q : Rat} (A : Along f c0 s0 p q) (hN : f.W * f.W ≤ f.N) (ns : ¬ (f.W = 0 ∧ f.T1 = 0 ∧ f.T2 = 0)) : Hide f (-p) (-q) := by
  have key := fun c s u h1 => hull f p q c0 s0 c s A.un u hN ns A.ac A.al h1
  have a1 := A.ac
  have a2 := A.al
  have a3 := A.un
  refine ⟨?_, .inr ⟨c0, s0, a3, ?_, fun c s u z => ?_⟩⟩
  · intro ⟨z1, z2⟩
    have m1 : q * (1 + f.d) + p * (f.a + f.e) = 0 := by grind
    have m2 : q * (f.a - f.e) + p * (f.d - 1) = 0 := by grind
    have m3 : q * f.b + p * f.c = 0 := by
      unfold Fv.x Fv.y at a1
      grind
    have hS : p * p + q * q ≠ 0 := by
      intro z
      obtain ⟨y1, y2⟩ := two_sq z
      rw [y1, y2] at a2
      grind
    apply ns
    unfold Fv.W Fv.T1 Fv.T2
    refine ⟨nz_mul (x := p * p + q * q) ?_ hS, nz_mul (x := p * p + q * q) ?_ hS, nz_mul (x := p * p + q * q) ?_ hS⟩ <;> grind
  · unfold Fv.x Fv.y at a1
    grind
  · have z' : f.x c s * q + f.y c s * p = 0 := by
      unfold Fv.x Fv.y
      grind
    have := key c s u z'
    unfold Fv.x Fv.y at this
    grind
theorem hide_flat {f : Fv} {c0 s0 p q : Rat} (A : Along f c0 s0 p q) (hW : f.W = 0) (h1 : f.T1 = 0) (h2 : f.T2 = 0) : Hide f (-q) p := by
  obtain ⟨e1, e2, e3⟩ := flat f hW h1 h2 c0 s0
  have a1 := A.ac
  have a2 := A.al
  generalize f.x c0 s0 = X at *
  generalize f.y c0 s0 = Y at *
  have hXY : X * X + Y * Y ≠ 0 := by
    intro z
    obtain ⟨y1, y2⟩ := two_sq z
    rw [y1, y2] at a2
    grind
  have k : p * p + q * q ≠ 0 := by
    intro z
    obtain ⟨y1, y2⟩ := two_sq z
    rw [y1, y2] at a2
    grind
  have o1 : p * (1 + f.d) * 0 = 0 := by grind
  have f1 : f.b * q + f.c * p = 0 := nz_mul (x := X * X + Y * Y) (by grind) hXY
  have f2 : (1 + f.d) * q + (f.a + f.e) * p = 0 := nz_mul (x := X * X + Y * Y) (by grind) hXY
  have f3 : (f.a - f.e) * q + (f.d - 1) * p = 0 := nz_mul (x := X * X + Y * Y) (by grind) hXY
  refine ⟨?_, .inl ⟨by grind, by grind, by grind⟩⟩
  intro ⟨z1, z2⟩
  have g1 : 1 + f.d = 0 := nz_mul (x := p * p + q * q) (by grind) k
  have g2 : f.d - 1 = 0 := nz_mul (x := p * p + q * q) (by grind) k
  grind
/-- no heading with fractions shows it -/
theorem Hide.not {f : Fv} {p q c s : Rat} (h : Hide f p q) (A : Along f c s p q) : False := by
  have a1 := A.ac
  have a2 := A.al
  have a3 := A.un
  unfold Fv.x Fv.y at a1 a2
  rcases h.alt with ⟨z1, z2, z3⟩ | ⟨c0, s0, u, z, k⟩
  · have e : (f.b + ((1 + f.d) * c + (f.a - f.e) * s)) * p - (f.c + ((f.a + f.e) * c + (f.d - 1) * s)) * q = (p * f.b + -q * f.c) + (p * (1 + f.d) + -q * (f.a + f.e)) * c + (p * (f.a - f.e) + -q * (f.d - 1)) * s := by grind
    rw [e, z1, z2, z3] at a2
    grind
  · have := k c s a3 (by grind)
    grind
end K30M

/-! text: KMath2 -/
set_option linter.all false
set_option maxHeartbeats 4000000
/-! plain mathematics: numbers below and above, sizes, courses -/
namespace K30M
/-! ### a fraction's two numbers -/
def gcdI (a b : Int) : Int := ((Nat.gcd a.natAbs b.natAbs : Nat) : Int)
theorem nd_of (n : Int) (u : Nat) (hu : 0 < u) : ((n : Rat) / (u : Rat)).num = n / gcdI n u ∧ (((n : Rat) / (u : Rat)).den : Int) = (u : Int) / gcdI n u := by
  have e : (n : Rat) / (u : Rat) = mkRat n u := (Rat.mkRat_eq_div n u).symm
  have hz : u ≠ 0 := by omega
  rw [e]
  unfold mkRat
  rw [dif_neg hz, Rat.normalize_eq]
  refine ⟨rfl, ?_⟩
  show ((u / n.natAbs.gcd u : Nat) : Int) = _
  unfold gcdI
  rw [Int.natAbs_natCast]
  exact Int.natCast_ediv _ _
theorem div_nd (n u : Int) (hu : 0 < u) : ((n : Rat) / (u : Rat)).num = n / gcdI n u ∧ (((n : Rat) / (u : Rat)).den : Int) = u / gcdI n u := by
  obtain ⟨k, rfl⟩ : ∃ k : Nat, u = (k : Int) := ⟨u.toNat, by omega⟩
  have := nd_of n k (by omega)
  have e : (((k : Int) : Rat)) = (k : Rat) := Rat.intCast_natCast k
  rw [e]
  exact this
theorem gcdI_pos {n u : Int} (hu : 0 < u) : 0 < gcdI n u := by
  unfold gcdI
  have := Nat.gcd_pos_of_pos_right n.natAbs (show 0 < u.natAbs by omega)
  omega
theorem gcdI_le {n u : Int} (hu : 0 < u) : gcdI n u ≤ u := by
  unfold gcdI
  have := Nat.gcd_le_right n.natAbs (show 0 < u.natAbs by omega)
  omega
theorem nd_eq (q : Rat) : (q.num : Rat) / (q.den : Rat) = q := by
  rw [← Rat.mkRat_eq_div]
  exact Rat.mkRat_self q
theorem den_ne (q : Rat) : (q.den : Rat) ≠ 0 := by
  have := q.den_nz
  intro z
  exact this (Rat.natCast_eq_zero_iff.mp z)
theorem num_mul (q : Rat) : q * (q.den : Rat) = (q.num : Rat) := by
  have h := nd_eq q
  have d := den_ne q
  grind
/-! ### sizes -/
def Bd (n : Nat) (q : Rat) : Prop := q.num.natAbs < 2 ^ n ∧ q.den < 2 ^ n
theorem pow_le {m n : Nat} (h : m ≤ n) : 2 ^ m ≤ 2 ^ n := Nat.pow_le_pow_right (by decide) h
theorem Bd.mono {m n : Nat} {q : Rat} (h : Bd m q) (l : m ≤ n) : Bd n q := ⟨Nat.lt_of_lt_of_le h.1 (pow_le l), Nat.lt_of_lt_of_le h.2 (pow_le l)⟩
theorem ediv_abs (a g : Int) (hg : 0 < g) : (a / g).natAbs ≤ a.natAbs := Int.natAbs_ediv_le_natAbs a g
theorem bd_div {n u : Int} {k : Nat} (hu : 0 < u) (h1 : n.natAbs < 2 ^ k) (h2 : u.natAbs < 2 ^ k) : Bd k ((n : Rat) / (u : Rat)) := by
  obtain ⟨e1, e2⟩ := div_nd n u hu
  have g := gcdI_pos (n := n) hu
  refine ⟨?_, ?_⟩
  · rw [e1]
    exact Nat.lt_of_le_of_lt (ediv_abs _ _ g) h1
  · have : (((n : Rat) / (u : Rat)).den : Int).natAbs ≤ u.natAbs := by
      rw [e2]
      exact ediv_abs _ _ g
    omega
theorem mul_lt {a b : Int} {m n : Nat} (h1 : a.natAbs < 2 ^ m) (h2 : b.natAbs < 2 ^ n) : (a * b).natAbs < 2 ^ (m + n) := by
  rw [Int.natAbs_mul, Nat.pow_add]
  exact Nat.mul_lt_mul'' h1 h2
theorem add_lt {a b : Int} {n : Nat} (h1 : a.natAbs < 2 ^ n) (h2 : b.natAbs < 2 ^ n) : (a + b).natAbs < 2 ^ (n + 1) := by
  rw [Nat.pow_succ]
  omega
theorem sub_lt {a b : Int} {n : Nat} (h1 : a.natAbs < 2 ^ n) (h2 : b.natAbs < 2 ^ n) : (a - b).natAbs < 2 ^ (n + 1) := by
  rw [Nat.pow_succ]
  omega
theorem denI {q : Rat} {n : Nat} (h : q.den < 2 ^ n) : ((q.den : Int)).natAbs < 2 ^ n := by
  rw [Int.natAbs_natCast]
  exact h
theorem den_pos (q : Rat) : (0 : Int) < (q.den : Int) := by
  have := q.den_nz
  omega
theorem sum_as (x y : Rat) : x + y = ((x.num * y.den + y.num * x.den : Int) : Rat) / ((x.den * y.den : Int) : Rat) := by
  have h1 := num_mul x
  have h2 := num_mul y
  have d1 := den_ne x
  have d2 := den_ne y
  rw [Rat.intCast_add, Rat.intCast_mul, Rat.intCast_mul, Rat.intCast_mul, ← h1, ← h2, Rat.intCast_natCast, Rat.intCast_natCast]
  grind
theorem sub_as (x y : Rat) : x - y = ((x.num * y.den - y.num * x.den : Int) : Rat) / ((x.den * y.den : Int) : Rat) := by
  have h1 := num_mul x
  have h2 := num_mul y
  have d1 := den_ne x
  have d2 := den_ne y
  rw [Rat.intCast_sub, Rat.intCast_mul, Rat.intCast_mul, Rat.intCast_mul, ← h1, ← h2, Rat.intCast_natCast, Rat.intCast_natCast]
  grind
theorem mul_as (x y : Rat) : x * y = ((x.num * y.num : Int) : Rat) / ((x.den * y.den : Int) : Rat) := by
  have h1 := num_mul x
  have h2 := num_mul y
  have d1 := den_ne x
  have d2 := den_ne y
  rw [Rat.intCast_mul, Rat.intCast_mul, ← h1, ← h2, Rat.intCast_natCast, Rat.intCast_natCast]
  grind
theorem num_pos {y : Rat} : 0 < y.num ↔ 0 < y := by
  have h1 := Rat.num_nonneg (q := y)
  have h2 := Rat.num_nonneg (q := -y)
  rw [Rat.neg_num] at h2
  constructor
  · intro h
    have : ¬ (0 ≤ -y) := fun z => by
      have := h2.mpr z
      omega
    grind
  · intro h
    have : ¬ (0 ≤ -y) := by grind
    have : ¬ (0 ≤ -y.num) := fun z => this (h2.mp z)
    omega
theorem num_neg {y : Rat} : y.num < 0 ↔ y < 0 := by
  have h := num_pos (y := -y)
  rw [Rat.neg_num] at h
  constructor
  · intro z
    have := h.mp (by omega)
    grind
  · intro z
    have := h.mpr (by grind)
    omega
theorem num_zero {y : Rat} : y.num = 0 ↔ y = 0 := Rat.num_eq_zero
theorem over_as (x y : Rat) (hy : 0 < y) : x / y = ((x.num * y.den : Int) : Rat) / ((x.den * y.num : Int) : Rat) := by
  have h1 := num_mul x
  have h2 := num_mul y
  have d1 := den_ne x
  have d2 := den_ne y
  have hn : y ≠ 0 := by grind
  rw [Rat.intCast_mul, Rat.intCast_mul, ← h1, ← h2, Rat.intCast_natCast, Rat.intCast_natCast]
  grind
theorem bd_sum {x y : Rat} {m n : Nat} (hx : Bd m x) (hy : Bd n y) : (x.num * y.den + y.num * x.den).natAbs < 2 ^ (m + n + 1) ∧ ((x.den : Int) * y.den).natAbs < 2 ^ (m + n + 1) ∧ Bd (m + n + 1) (x + y) := by
  have a1 := mul_lt hx.1 (denI hy.2)
  have a2 : (y.num * (x.den : Int)).natAbs < 2 ^ (m + n) := by
    rw [Nat.add_comm]
    exact mul_lt hy.1 (denI hx.2)
  have a3 := mul_lt (denI hx.2) (denI hy.2)
  have b1 := add_lt a1 a2
  have b2 : ((x.den : Int) * y.den).natAbs < 2 ^ (m + n + 1) := Nat.lt_of_lt_of_le a3 (pow_le (by omega))
  refine ⟨b1, b2, ?_⟩
  rw [sum_as]
  exact bd_div (Int.mul_pos (den_pos x) (den_pos y)) b1 b2
theorem bd_sub {x y : Rat} {m n : Nat} (hx : Bd m x) (hy : Bd n y) : (x.num * y.den - y.num * x.den).natAbs < 2 ^ (m + n + 1) ∧ ((x.den : Int) * y.den).natAbs < 2 ^ (m + n + 1) ∧ Bd (m + n + 1) (x - y) := by
  have a1 := mul_lt hx.1 (denI hy.2)
  have a2 : (y.num * (x.den : Int)).natAbs < 2 ^ (m + n) := by
    rw [Nat.add_comm]
    exact mul_lt hy.1 (denI hx.2)
  have a3 := mul_lt (denI hx.2) (denI hy.2)
  have b1 := sub_lt a1 a2
  have b2 : ((x.den : Int) * y.den).natAbs < 2 ^ (m + n + 1) := Nat.lt_of_lt_of_le a3 (pow_le (by omega))
  refine ⟨b1, b2, ?_⟩
  rw [sub_as]
  exact bd_div (Int.mul_pos (den_pos x) (den_pos y)) b1 b2
theorem bd_mul {x y : Rat} {m n : Nat} (hx : Bd m x) (hy : Bd n y) : (x.num * y.num).natAbs < 2 ^ (m + n) ∧ ((x.den : Int) * y.den).natAbs < 2 ^ (m + n) ∧ Bd (m + n) (x * y) := by
  have a1 := mul_lt hx.1 hy.1
  have a3 := mul_lt (denI hx.2) (denI hy.2)
  refine ⟨a1, a3, ?_⟩
  rw [mul_as]
  exact bd_div (Int.mul_pos (den_pos x) (den_pos y)) a1 a3
theorem bd_over {x y : Rat} {m n : Nat} (h : 0 < y) (hx : Bd m x) (hy : Bd n y) : (x.num * y.den).natAbs < 2 ^ (m + n) ∧ ((x.den : Int) * y.num).natAbs < 2 ^ (m + n) ∧ 0 < (x.den : Int) * y.num ∧ Bd (m + n) (x / y) := by
  have a1 := mul_lt hx.1 (denI hy.2)
  have a3 := mul_lt (denI hx.2) hy.1
  have p := Int.mul_pos (den_pos x) (num_pos.mpr h)
  refine ⟨a1, a3, p, ?_⟩
  rw [over_as x y h]
  exact bd_div p a1 a3
theorem bd_neg {x : Rat} {m : Nat} (hx : Bd m x) : Bd m (-x) := by
  refine ⟨?_, ?_⟩
  · rw [Rat.neg_num, Int.natAbs_neg]
    exact hx.1
  · rw [Rat.neg_den]
    exact hx.2
theorem bd_int {i : Int} {m : Nat} (h : i.natAbs < 2 ^ m) (h1 : 1 ≤ m) : Bd m (i : Rat) := by
  refine ⟨?_, ?_⟩
  · rw [Rat.num_intCast]
    exact h
  · rw [Rat.den_intCast]
    exact Nat.lt_of_lt_of_le (by decide : 1 < 2 ^ 1) (pow_le h1)
/-! ### one number below for several: x N is whole, x at most B in size -/
def Cd (N B : Nat) (x : Rat) : Prop := ∃ z : Int, x * (N : Rat) = (z : Rat) ∧ z.natAbs ≤ B * N
theorem Cd.bd {N B n : Nat} {x : Rat} (h : Cd N B x) (hN : 0 < N) (h1 : N < 2 ^ n) (h2 : B * N < 2 ^ n) : Bd n x := by
  obtain ⟨z, e, hz⟩ := h
  have hNr : (N : Rat) ≠ 0 := fun q => by
    have := Rat.natCast_eq_zero_iff.mp q
    omega
  have ex : x = (z : Rat) / ((N : Int) : Rat) := by
    rw [Rat.intCast_natCast]
    grind
  rw [ex]
  exact bd_div (by omega) (by omega) (by rw [Int.natAbs_natCast]; exact h1)
theorem Cd.add {N B C : Nat} {x y : Rat} (hx : Cd N B x) (hy : Cd N C y) : Cd N (B + C) (x + y) := by
  obtain ⟨z, e, h⟩ := hx
  obtain ⟨w, e2, h2⟩ := hy
  refine ⟨z + w, ?_, ?_⟩
  · rw [Rat.intCast_add]
    grind
  · rw [Nat.add_mul]
    omega
theorem Cd.neg {N B : Nat} {x : Rat} (hx : Cd N B x) : Cd N B (-x) := by
  obtain ⟨z, e, h⟩ := hx
  refine ⟨-z, ?_, by rw [Int.natAbs_neg]; exact h⟩
  rw [Rat.intCast_neg]
  grind
theorem Cd.sub {N B C : Nat} {x y : Rat} (hx : Cd N B x) (hy : Cd N C y) : Cd N (B + C) (x - y) := by
  have := hx.add hy.neg
  have e : x + -y = x - y := by grind
  rw [e] at this
  exact this
theorem Cd.mul {N M B C : Nat} {x y : Rat} (hx : Cd N B x) (hy : Cd M C y) : Cd (N * M) (B * C) (x * y) := by
  obtain ⟨z, e, h⟩ := hx
  obtain ⟨w, e2, h2⟩ := hy
  refine ⟨z * w, ?_, ?_⟩
  · rw [Rat.intCast_mul, Rat.natCast_mul]
    grind
  · rw [Int.natAbs_mul]
    have := Nat.mul_le_mul h h2
    have e3 : B * C * (N * M) = B * N * (C * M) := by
      simp only [Nat.mul_assoc, Nat.mul_left_comm, Nat.mul_comm]
    omega
theorem Cd.up {N M B C : Nat} {x : Rat} (hx : Cd N B x) (hM : N ∣ M) (hB : B ≤ C) : Cd M C x := by
  obtain ⟨z, e, h⟩ := hx
  obtain ⟨k, rfl⟩ := hM
  refine ⟨z * k, ?_, ?_⟩
  · rw [Rat.intCast_mul, Rat.natCast_mul, Rat.intCast_natCast]
    grind
  · rw [Int.natAbs_mul, Int.natAbs_natCast]
    have h1 := Nat.mul_le_mul_right k h
    have h2 := Nat.mul_le_mul_right (N * k) hB
    have e3 : B * N * k = B * (N * k) := Nat.mul_assoc _ _ _
    omega
theorem Cd.int (i : Int) {B : Nat} (h : i.natAbs ≤ B) : Cd 1 B (i : Rat) := by
  refine ⟨i, ?_, by omega⟩
  show (i : Rat) * ((1 : Nat) : Rat) = (i : Rat)
  have : ((1 : Nat) : Rat) = 1 := rfl
  grind
theorem Cd.div (i : Int) (u B : Nat) (hu : 0 < u) (h : i.natAbs ≤ B) : Cd u B ((i : Rat) / ((u : Int) : Rat)) := by
  refine ⟨i, ?_, ?_⟩
  · have : ((u : Nat) : Rat) ≠ 0 := fun q => by
      have := Rat.natCast_eq_zero_iff.mp q
      omega
    rw [Rat.intCast_natCast]
    grind
  · exact Nat.le_trans h (Nat.le_mul_of_pos_right B hu)
/-! ### the course along two fractions -/
def way (u w : Rat) : Int × Int := (u.num * w.den / gcdI (u.num * w.den) (w.num * u.den), w.num * u.den / gcdI (u.num * w.den) (w.num * u.den))
theorem gcdI_dvd_l (a b : Int) : gcdI a b ∣ a := Int.natAbs_dvd_natAbs.mp (by unfold gcdI; rw [Int.natAbs_natCast]; exact Nat.gcd_dvd_left _ _)
theorem gcdI_dvd_r (a b : Int) : gcdI a b ∣ b := Int.natAbs_dvd_natAbs.mp (by unfold gcdI; rw [Int.natAbs_natCast]; exact Nat.gcd_dvd_right _ _)
theorem gcdI_ne {a b : Int} (h : ¬ (a = 0 ∧ b = 0)) : 0 < gcdI a b := by
  unfold gcdI
  have : 0 < Nat.gcd a.natAbs b.natAbs := by
    rcases Nat.eq_zero_or_pos (Nat.gcd a.natAbs b.natAbs) with z | z
    · obtain ⟨z1, z2⟩ := Nat.gcd_eq_zero_iff.mp z
      exact absurd ⟨Int.natAbs_eq_zero.mp z1, Int.natAbs_eq_zero.mp z2⟩ h
    · exact z
  omega
theorem red_gcd {a b : Int} (h : ¬ (a = 0 ∧ b = 0)) : gcdI (a / gcdI a b) (b / gcdI a b) = 1 := by
  have hp := gcdI_ne h
  have hn : 0 < Nat.gcd a.natAbs b.natAbs := by
    unfold gcdI at hp
    omega
  unfold gcdI
  have e1 : (a / ((Nat.gcd a.natAbs b.natAbs : Nat) : Int)).natAbs = a.natAbs / Nat.gcd a.natAbs b.natAbs := by
    have d := gcdI_dvd_l a b
    unfold gcdI at d
    rw [Int.natAbs_ediv_of_dvd d, Int.natAbs_natCast]
  have e2 : (b / ((Nat.gcd a.natAbs b.natAbs : Nat) : Int)).natAbs = b.natAbs / Nat.gcd a.natAbs b.natAbs := by
    have d := gcdI_dvd_r a b
    unfold gcdI at d
    rw [Int.natAbs_ediv_of_dvd d, Int.natAbs_natCast]
  rw [e1, e2, Nat.gcd_div (Nat.gcd_dvd_left _ _) (Nat.gcd_dvd_right _ _), Nat.div_self hn]
  rfl
theorem way_facts {u w : Rat} (h : ¬ (u = 0 ∧ w = 0)) : gcdI (way u w).1 (way u w).2 = 1 ∧ ∃ t : Rat, 0 < t ∧ ((way u w).1 : Rat) = t * u ∧ ((way u w).2 : Rat) = t * w := by
  have hab : ¬ (u.num * w.den = 0 ∧ w.num * u.den = 0) := by
    intro ⟨z1, z2⟩
    have d1 := den_pos u
    have d2 := den_pos w
    refine h ⟨num_zero.mp ?_, num_zero.mp ?_⟩
    · rcases Int.mul_eq_zero.mp z1 with q | q
      · exact q
      · omega
    · rcases Int.mul_eq_zero.mp z2 with q | q
      · exact q
      · omega
  have g := gcdI_ne hab
  refine ⟨red_gcd hab, ?_⟩
  generalize hG : gcdI (u.num * w.den) (w.num * u.den) = G at g
  have k1 : ((u.num * w.den / G : Int) : Rat) * (G : Rat) = ((u.num * w.den : Int) : Rat) := by
    rw [← Rat.intCast_mul, Int.ediv_mul_cancel (by rw [← hG]; exact gcdI_dvd_l _ _)]
  have k2 : ((w.num * u.den / G : Int) : Rat) * (G : Rat) = ((w.num * u.den : Int) : Rat) := by
    rw [← Rat.intCast_mul, Int.ediv_mul_cancel (by rw [← hG]; exact gcdI_dvd_r _ _)]
  have gr : (0 : Rat) < (G : Rat) := Rat.intCast_pos.mpr g
  have d1 : (0 : Rat) < (u.den : Rat) := by
    have := den_pos u
    exact Rat.natCast_pos.mpr (by omega)
  have d2 : (0 : Rat) < (w.den : Rat) := by
    have := den_pos w
    exact Rat.natCast_pos.mpr (by omega)
  rw [Rat.intCast_mul, Rat.intCast_natCast, ← num_mul u] at k1
  rw [Rat.intCast_mul, Rat.intCast_natCast, ← num_mul w] at k2
  have e1 : (way u w).1 = u.num * w.den / G := by rw [← hG]; rfl
  have e2 : (way u w).2 = w.num * u.den / G := by rw [← hG]; rfl
  rw [e1, e2]
  refine ⟨(u.den : Rat) * (w.den : Rat) / (G : Rat), ?_, ?_, ?_⟩
  · have := Rat.mul_pos (Rat.mul_pos d1 d2) (Rat.inv_pos.mpr gr)
    rw [Rat.div_def]
    exact this
  · grind
  · grind
/-- reduced ones are no greater than any others along the same line -/
theorem red_le {p q x y : Int} (h : gcdI p q = 1) (e : p * y = q * x) (hx : ¬ (x = 0 ∧ y = 0)) : p.natAbs ≤ x.natAbs ∧ q.natAbs ≤ y.natAbs := by
  have cop : Nat.Coprime p.natAbs q.natAbs := by
    unfold gcdI at h
    show Nat.gcd _ _ = 1
    omega
  have en : p.natAbs * y.natAbs = q.natAbs * x.natAbs := by
    rw [← Int.natAbs_mul, ← Int.natAbs_mul, e]
  have d1 : p.natAbs ∣ x.natAbs := cop.dvd_of_dvd_mul_left ⟨y.natAbs, en.symm⟩
  have d2 : q.natAbs ∣ y.natAbs := cop.symm.dvd_of_dvd_mul_left ⟨x.natAbs, en⟩
  refine ⟨?_, ?_⟩
  · rcases Nat.eq_zero_or_pos x.natAbs with z | z
    · have hy : y.natAbs ≠ 0 := fun q => hx ⟨Int.natAbs_eq_zero.mp z, Int.natAbs_eq_zero.mp q⟩
      rw [z, Nat.mul_zero] at en
      rcases Nat.mul_eq_zero.mp en with q | q
      · omega
      · exact absurd q hy
    · exact Nat.le_of_dvd z d1
  · rcases Nat.eq_zero_or_pos y.natAbs with z | z
    · have hy : x.natAbs ≠ 0 := fun q => hx ⟨Int.natAbs_eq_zero.mp q, Int.natAbs_eq_zero.mp z⟩
      rw [z, Nat.mul_zero] at en
      rcases Nat.mul_eq_zero.mp en.symm with q | q
      · omega
      · exact absurd q hy
    · exact Nat.le_of_dvd z d2
theorem way_le {u w : Rat} {N B : Nat} (h : ¬ (u = 0 ∧ w = 0)) (hN : 0 < N) (hu : Cd N B u) (hw : Cd N B w) : (way u w).1.natAbs ≤ B * N ∧ (way u w).2.natAbs ≤ B * N := by
  obtain ⟨g, t, ht, e1, e2⟩ := way_facts h
  obtain ⟨z, ez, hz⟩ := hu
  obtain ⟨y, ey, hy⟩ := hw
  have hNr : (N : Rat) ≠ 0 := fun q => by
    have := Rat.natCast_eq_zero_iff.mp q
    omega
  have er : (((way u w).1 * y : Int) : Rat) = (((way u w).2 * z : Int) : Rat) := by
    rw [Rat.intCast_mul, Rat.intCast_mul, e1, e2, ← ez, ← ey]
    grind
  have ei := Rat.intCast_inj.mp er
  have nz : ¬ (z = 0 ∧ y = 0) := by
    intro ⟨z1, z2⟩
    rw [z1] at ez
    rw [z2] at ey
    refine h ⟨nz_mul (x := (N : Rat)) ?_ hNr, nz_mul (x := (N : Rat)) ?_ hNr⟩
    · have : ((0 : Int) : Rat) = 0 := rfl
      grind
    · have : ((0 : Int) : Rat) = 0 := rfl
      grind
  have := red_le g ei nz
  omega
end K30M

/-! text: KMath3 -/
set_option linter.all false
set_option maxHeartbeats 4000000
/-! plain mathematics: the told course, points on a line, signs, tame fives -/
namespace K30M
/-! ### the told course -/
def Fv.flat (f : Fv) : Prop := f.W = 0 ∧ f.T1 = 0 ∧ f.T2 = 0
instance (f : Fv) : Decidable f.flat := inferInstanceAs (Decidable (_ ∧ _ ∧ _))
def shown (f : Fv) (h : Rat × Rat) : Option (Int × Int) := if f.x h.1 h.2 = 0 ∧ f.y h.1 h.2 = 0 then none else some (way (f.x h.1 h.2) (-(f.y h.1 h.2)))
def q35 : Rat := ⟨3, 5, by decide, by decide⟩
def q45 : Rat := ⟨4, 5, by decide, by decide⟩
def samples : List (Rat × Rat) := [(1, 0), (0, 1), (-1, 0), (0, -1), (q35, q45), (-q35, q45), (-q35, -q45), (q35, -q45)]
def told (f : Fv) : Option (Int × Int) := if f.N < f.W * f.W then none else match samples.filterMap (shown f) with
  | [] => none
  | c :: _ => some (if f.flat then (-c.2, c.1) else (-c.1, -c.2))
theorem q35_eq : q35 * q35 + q45 * q45 = 1 := by decide +kernel
theorem samples_unit : ∀ h ∈ samples, h.1 * h.1 + h.2 * h.2 = 1 := by
  have e := q35_eq
  intro h hm
  simp only [samples, List.mem_cons, List.mem_nil_iff, or_false] at hm
  rcases hm with rfl | rfl | rfl | rfl | rfl | rfl | rfl | rfl <;> grind
theorem cd35 : Cd 5 1 q35 := ⟨3, by decide +kernel, by decide⟩
theorem cd45 : Cd 5 1 q45 := ⟨4, by decide +kernel, by decide⟩
theorem cd5 (i : Int) (h : i.natAbs ≤ 1) : Cd 5 1 (i : Rat) := (Cd.int i h).up (by decide) (by decide)
theorem samples_cd : ∀ h ∈ samples, Cd 5 1 h.1 ∧ Cd 5 1 h.2 := by
  have i1 : Cd 5 1 (1 : Rat) := cd5 1 (by decide)
  have i0 : Cd 5 1 (0 : Rat) := cd5 0 (by decide)
  intro h hm
  simp only [samples, List.mem_cons, List.mem_nil_iff, or_false] at hm
  rcases hm with rfl | rfl | rfl | rfl | rfl | rfl | rfl | rfl
  · exact ⟨i1, i0⟩
  · exact ⟨i0, i1⟩
  · exact ⟨i1.neg, i0⟩
  · exact ⟨i0, i1.neg⟩
  · exact ⟨cd35, cd45⟩
  · exact ⟨cd35.neg, cd45⟩
  · exact ⟨cd35.neg, cd45.neg⟩
  · exact ⟨cd35, cd45.neg⟩
theorem shown_along {f : Fv} {h : Rat × Rat} {c : Int × Int} (u : h.1 * h.1 + h.2 * h.2 = 1) (e : shown f h = some c) : gcdI c.1 c.2 = 1 ∧ Along f h.1 h.2 c.1 c.2 := by
  unfold shown at e
  split at e
  · cases e
  · rename_i n
    have n2 : ¬ (f.x h.1 h.2 = 0 ∧ -(f.y h.1 h.2) = 0) := fun ⟨z1, z2⟩ => n ⟨z1, by grind⟩
    obtain ⟨g, t, ht, e1, e2⟩ := way_facts n2
    have ec := Option.some.inj e
    rw [ec] at g e1 e2
    refine ⟨g, u, ?_, ?_⟩
    · rw [e1, e2]
      grind
    · rw [e1, e2]
      have s : 0 < f.x h.1 h.2 * f.x h.1 h.2 + f.y h.1 h.2 * f.y h.1 h.2 := by
        have h1 := sq_nonneg (f.x h.1 h.2)
        have h2 := sq_nonneg (f.y h.1 h.2)
        have h3 : f.x h.1 h.2 * f.x h.1 h.2 + f.y h.1 h.2 * f.y h.1 h.2 ≠ 0 := fun z => n (two_sq z)
        grind
      have := Rat.mul_pos ht s
      grind
theorem some_shown (f : Fv) : ∃ c r, samples.filterMap (shown f) = c :: r := by
  cases e : samples.filterMap (shown f) with
  | cons c r => exact ⟨c, r, rfl⟩
  | nil =>
    exfalso
    have key : ∀ h ∈ samples, f.x h.1 h.2 = 0 ∧ f.y h.1 h.2 = 0 := by
      intro h hm
      have n : shown f h = none := List.filterMap_eq_nil_iff.mp e h hm
      unfold shown at n
      split at n
      · rename_i z
        exact z
      · cases n
    have a1 := key (1, 0) (by simp [samples])
    have a2 := key (0, 1) (by simp [samples])
    have a3 := key (-1, 0) (by simp [samples])
    have a4 := key (0, -1) (by simp [samples])
    exact force f ⟨a1.1, a1.2, a2.1, a2.2, a3.1, a3.2, a4.1, a4.2⟩
/-- a common number below, and none great -/
def Tame (f : Fv) : Prop := ∃ N : Nat, 0 < N ∧ N < 2 ^ 48 ∧ Cd N 32 f.a ∧ Cd N 32 f.b ∧ Cd N 32 f.c ∧ Cd N 32 f.d ∧ Cd N 32 f.e
theorem Tame.bd {f : Fv} (t : Tame f) : Bd 54 f.a ∧ Bd 54 f.b ∧ Bd 54 f.c ∧ Bd 54 f.d ∧ Bd 54 f.e := by
  obtain ⟨N, h0, h1, ha, hb, hc, hd, he⟩ := t
  have l1 : N < 2 ^ 54 := Nat.lt_of_lt_of_le h1 (by decide)
  have l2 : 32 * N < 2 ^ 54 := by omega
  exact ⟨ha.bd h0 l1 l2, hb.bd h0 l1 l2, hc.bd h0 l1 l2, hd.bd h0 l1 l2, he.bd h0 l1 l2⟩
theorem Tame.back {f : Fv} (t : Tame f) : Tame ⟨f.a, -f.b, -f.c, f.d, f.e⟩ := by
  obtain ⟨N, h0, h1, ha, hb, hc, hd, he⟩ := t
  exact ⟨N, h0, h1, ha, hb.neg, hc.neg, hd, he⟩
theorem shown_le {f : Fv} (t : Tame f) {h : Rat × Rat} (hm : h ∈ samples) {c : Int × Int} (e : shown f h = some c) : c.1.natAbs < 2 ^ 60 ∧ c.2.natAbs < 2 ^ 60 := by
  obtain ⟨N, h0, h1, ha, hb, hc, hd, he⟩ := t
  obtain ⟨k1, k2⟩ := samples_cd h hm
  unfold shown at e
  split at e
  · cases e
  · rename_i n
    have n2 : ¬ (f.x h.1 h.2 = 0 ∧ -(f.y h.1 h.2) = 0) := fun ⟨z1, z2⟩ => n ⟨z1, by grind⟩
    have i1 : Cd N 1 (1 : Rat) := (Cd.int 1 (B := 1) (by decide)).up ⟨N, by omega⟩ (by decide)
    have dv : N ∣ N * 5 := ⟨5, rfl⟩
    have hx : Cd (N * 5) 129 (f.x h.1 h.2) := by
      unfold Fv.x
      exact ((hb.up dv (Nat.le_refl _)).add (((i1.add hd).mul k1).add ((ha.sub he).mul k2))).up (Nat.dvd_refl _) (by decide)
    have hy : Cd (N * 5) 129 (f.y h.1 h.2) := by
      unfold Fv.y
      exact ((hc.up dv (Nat.le_refl _)).add (((ha.add he).mul k1).add ((hd.sub i1).mul k2))).up (Nat.dvd_refl _) (by decide)
    have := way_le n2 (by omega) hx hy.neg
    rw [Option.some.inj e] at this
    omega
structure ToldOk (f : Fv) (p q : Int) : Prop where
  red : gcdI p q = 1
  hide : Hide f p q
theorem told_spec (f : Fv) (h : ¬ f.N < f.W * f.W) : ∃ p q, told f = some (p, q) ∧ ToldOk f p q ∧ (Tame f → p.natAbs < 2 ^ 60 ∧ q.natAbs < 2 ^ 60) := by
  obtain ⟨c, r, e⟩ := some_shown f
  have hm : c ∈ samples.filterMap (shown f) := by
    rw [e]
    exact List.mem_cons_self
  obtain ⟨s, hs, es⟩ := List.mem_filterMap.mp hm
  obtain ⟨g, A⟩ := shown_along (samples_unit s hs) es
  have sw : ∀ p q : Int, gcdI p q = 1 → gcdI (-p) (-q) = 1 ∧ gcdI (-q) p = 1 := by
    intro p q h
    unfold gcdI at *
    rw [Int.natAbs_neg, Int.natAbs_neg]
    exact ⟨h, by rw [Nat.gcd_comm]; exact h⟩
  unfold told
  rw [if_neg h, e]
  by_cases fl : f.flat
  · refine ⟨-c.2, c.1, by show some (if f.flat then _ else _) = _; rw [if_pos fl], ⟨(sw _ _ g).2, ?_⟩, fun t => ?_⟩
    · have := hide_flat A fl.1 fl.2.1 fl.2.2
      rw [Rat.intCast_neg]
      exact this
    · have := shown_le t hs es
      rw [Int.natAbs_neg]
      exact ⟨this.2, this.1⟩
  · refine ⟨-c.1, -c.2, by show some (if f.flat then _ else _) = _; rw [if_neg fl], ⟨(sw _ _ g).1, ?_⟩, fun t => ?_⟩
    · have := hide_hull A (by grind) fl
      rw [Rat.intCast_neg, Rat.intCast_neg]
      exact this
    · have := shown_le t hs es
      rw [Int.natAbs_neg, Int.natAbs_neg]
      exact this
/-- a hidden course is shown at no heading -/
theorem ToldOk.not {f : Fv} {p q : Int} (t : ToldOk f p q) {h : Rat × Rat} (u : h.1 * h.1 + h.2 * h.2 = 1) : shown f h ≠ some (p, q) := fun e => t.hide.not (shown_along u e).2
theorem ToldOk.back {f : Fv} {p q : Int} (t : ToldOk f p q) : ToldOk ⟨f.a, -f.b, -f.c, f.d, f.e⟩ (-p) (-q) := by
  refine ⟨?_, ?_⟩
  · have := t.red
    unfold gcdI at *
    rw [Int.natAbs_neg, Int.natAbs_neg]
    exact this
  · rw [Rat.intCast_neg, Rat.intCast_neg]
    exact t.hide.back
/-- the rows of a tame five and a course -/
theorem rows_bd {f : Fv} (t : Tame f) {p q : Int} (hp : p.natAbs < 2 ^ 60) (hq : q.natAbs < 2 ^ 60) :
    Bd 118 ((q : Rat) * f.b + (p : Rat) * f.c) ∧ Bd 118 ((q : Rat) * (1 + f.d) + (p : Rat) * (f.a + f.e)) ∧ Bd 118 ((q : Rat) * (f.a - f.e) + (p : Rat) * (f.d - 1)) ∧
    Bd 118 ((p : Rat) * f.b + (-(q : Rat)) * f.c) ∧ Bd 118 ((p : Rat) * (1 + f.d) + (-(q : Rat)) * (f.a + f.e)) ∧ Bd 118 ((p : Rat) * (f.a - f.e) + (-(q : Rat)) * (f.d - 1)) := by
  obtain ⟨N, h0, h1, ha, hb, hc, hd, he⟩ := t
  have i1 : Cd N 1 (1 : Rat) := (Cd.int 1 (B := 1) (by decide)).up ⟨N, by omega⟩ (by decide)
  have cp : Cd 1 (2 ^ 60) (p : Rat) := Cd.int p (by omega)
  have cq : Cd 1 (2 ^ 60) (q : Rat) := Cd.int q (by omega)
  have fin : ∀ {B : Nat} {x : Rat}, B ≤ 2 ^ 69 → Cd (1 * N) B x → Bd 118 x := fun {B x} hB h => by
    refine Cd.bd (h.up (Nat.dvd_refl _) hB) (by omega) (by omega) ?_
    rw [Nat.one_mul]
    omega
  refine ⟨fin ?_ ((cq.mul hb).add (cp.mul hc)), fin ?_ ((cq.mul (i1.add hd)).add (cp.mul (ha.add he))), fin ?_ ((cq.mul (ha.sub he)).add (cp.mul (hd.sub i1))),
    fin ?_ ((cp.mul hb).add (cq.neg.mul hc)), fin ?_ ((cp.mul (i1.add hd)).add (cq.neg.mul (ha.add he))), fin ?_ ((cp.mul (ha.sub he)).add (cq.neg.mul (hd.sub i1)))⟩ <;> decide
/-! ### signs -/
def sg (x : Rat) : Int := x.num.sign
theorem sg_pos {x : Rat} (h : 0 < x) : sg x = 1 := Int.sign_eq_one_of_pos (num_pos.mpr h)
theorem sg_neg {x : Rat} (h : x < 0) : sg x = -1 := Int.sign_eq_neg_one_of_neg (num_neg.mpr h)
theorem sg_zero {x : Rat} (h : x = 0) : sg x = 0 := by
  unfold sg
  rw [h]
  rfl
theorem c1 : ((1 : Int) : Rat) = 1 := rfl
theorem cm1 : ((-1 : Int) : Rat) = -1 := by decide
theorem c0 : ((0 : Int) : Rat) = 0 := rfl
/-! ### points -/
/-- what is asked of a point: part x, factor y of the root of z: the root is t -/
structure Low (x y z t : Rat) : Prop where
  z0 : 0 ≤ z
  t0 : 0 ≤ t
  sq : (y * y) * z = t * t
  le : x + (sg y : Rat) * t ≤ 0
theorem low_mk {x y z r : Rat} (z0 : 0 ≤ z) (r0 : 0 ≤ r) (e : z = r * r) (h : x + y * r ≤ 0) : Low x y z (if 0 ≤ y then y * r else -(y * r)) := by
  rcases Rat.le_total (a := 0) (b := y) with hy | hy
  · rw [if_pos hy]
    refine ⟨z0, Rat.mul_nonneg hy r0, by rw [e]; grind, ?_⟩
    by_cases hz : y = 0
    · rw [sg_zero hz, c0]
      rw [hz] at h ⊢
      grind
    · rw [sg_pos (by grind), c1]
      grind
  · by_cases hz : y = 0
    · rw [if_pos (by grind), sg_zero_aux hz]
      exact ⟨z0, by rw [hz]; grind, by rw [hz]; grind, by rw [sg_zero hz, c0]; rw [hz] at h; grind⟩
    · have hn : ¬ 0 ≤ y := by grind
      rw [if_neg hn]
      have := Rat.mul_nonneg (show 0 ≤ -y by grind) r0
      refine ⟨z0, by grind, by rw [e]; grind, ?_⟩
      rw [sg_neg (by grind), cm1]
      grind
where sg_zero_aux {y r : Rat} (h : y = 0) : y * r = y * r := rfl
theorem abs_sq (x : Rat) : ∃ r, 0 ≤ r ∧ r * r = x * x ∧ (r = x ∨ r = -x) := by
  rcases Rat.le_total (a := 0) (b := x) with h | h
  · exact ⟨x, h, rfl, .inl rfl⟩
  · exact ⟨-x, by grind, by grind, .inr rfl⟩
theorem pt_low {lk ll lm sk sl sm w : Rat} (h : Hid lk ll lm sk sl sm) (hw : w = 1 ∨ w = -1) (z0 : 0 ≤ (ll * ll + lm * lm) - lk * lk) :
    ∃ t, Low (sk + (sl * -((ll * lk) / (ll * ll + lm * lm)) + sm * -((lm * lk) / (ll * ll + lm * lm)))) (sl * ((w * lm) / (ll * ll + lm * lm)) + sm * ((-w * ll) / (ll * ll + lm * lm))) ((ll * ll + lm * lm) - lk * lk) t := by
  have n0 : ll * ll + lm * lm ≠ 0 := fun z => h.nz (two_sq z)
  rcases h.alt with ⟨z1, z2, z3⟩ | ⟨c0, s0, u, on, k⟩
  · refine ⟨0, z0, by grind, ?_, ?_⟩
    · rw [z2, z3]
      grind
    · rw [z1, z2, z3]
      grind
  · obtain ⟨r, r0, rr, rx⟩ := abs_sq (lm * c0 - ll * s0)
    have e : (ll * ll + lm * lm) - lk * lk = r * r := by
      rw [rr]
      grind
    have unit : (-(ll * lk) / (ll * ll + lm * lm) + (w * lm) / (ll * ll + lm * lm) * r) * (-(ll * lk) / (ll * ll + lm * lm) + (w * lm) / (ll * ll + lm * lm) * r) +
        (-(lm * lk) / (ll * ll + lm * lm) + (-w * ll) / (ll * ll + lm * lm) * r) * (-(lm * lk) / (ll * ll + lm * lm) + (-w * ll) / (ll * ll + lm * lm) * r) = 1 := by
      have ww : w * w = 1 := by rcases hw with rfl | rfl <;> grind
      generalize hn : ll * ll + lm * lm = n at *
      have : lk * lk + r * r = n := by grind
      have i : n * (1 / n) = 1 := by grind
      grind
    have line : lk + (ll * (-(ll * lk) / (ll * ll + lm * lm) + (w * lm) / (ll * ll + lm * lm) * r) + lm * (-(lm * lk) / (ll * ll + lm * lm) + (-w * ll) / (ll * ll + lm * lm) * r)) = 0 := by
      generalize hn : ll * ll + lm * lm = n at *
      grind
    have le := k _ _ unit line
    refine ⟨_, low_mk (r := r) z0 r0 e ?_⟩
    generalize hn : ll * ll + lm * lm = n at *
    have e2 : sk + (sl * -(ll * lk / n) + sm * -(lm * lk / n)) + (sl * (w * lm / n) + sm * (-w * ll / n)) * r = sk + (sl * (-(ll * lk) / n + w * lm / n * r) + sm * (-(lm * lk) / n + -w * ll / n * r)) := by grind
    rw [e2]
    exact le
end K30M

/-! text: KVals -/
set_option Elab.async false
set_option linter.all false
set_option maxRecDepth 100000
set_option maxHeartbeats 4000000
/-! fractions as values; own rules: // of great numbers, isqrt, repr; a def of the text by its name -/
namespace K30
open PySem PySem.Spec PyProof.Rows L2 K30M
/-! ### fractions -/
/-- the fraction q -/
def pF (K : PySem.W.Frag) (q : Rat) : Pd := pT K [pV (.int q.num), pV (.int (q.den : Int))]
instance {l : Option Addr} {K : PySem.W.Frag} {q : Rat} : Mo l (pF K q) := by
  unfold pF
  infer_instance
/-- .. of a size -/
def pQ (K : PySem.W.Frag) (n : Nat) (q : Rat) : Pd := fun v H => Bd n q ∧ pF K q v H
instance {l : Option Addr} {K : PySem.W.Frag} {n : Nat} {q : Rat} : Mo l (pQ K n q) := ⟨fun v H H' lo u h => ⟨h.1, Mo.mo v H H' lo u h.2⟩⟩
/-- a proposition besides -/
def pP (C : Prop) (P : Pd) : Pd := fun v H => C ∧ P v H
instance {l : Option Addr} {C : Prop} {P : Pd} [Mo l P] : Mo l (pP C P) := ⟨fun v H H' lo u h => ⟨h.1, Mo.mo v H H' lo u h.2⟩⟩
section
variable {l : Option Addr} {Γ : Ga} {K : PySem.W.Frag} {P P' R : Pd} {Ps : List Pd} {te ta tb : TE} {q x y : Rat} {m n : Nat}
theorem q_up (h : EvG l te Γ (pQ K m q)) (l1 : m ≤ n) : EvG l te Γ (pQ K n q) := h.imp fun v H p => ⟨p.1.mono l1, p.2⟩
theorem q_bd (h : EvG l te Γ (pQ K m q)) (b : Bd n q) : EvG l te Γ (pQ K n q) := h.imp fun v H p => ⟨b, p.2⟩
theorem q_is (h : EvG l te Γ (pQ K m x)) (e : x = y) : EvG l te Γ (pQ K m y) := e ▸ h
theorem q_f (h : EvG l te Γ (pQ K m q)) : EvG l te Γ (pF K q) := h.imp fun v H p => p.2
theorem f_q (h : EvG l te Γ (pF K q)) (b : Bd n q) : EvG l te Γ (pQ K n q) := h.imp fun v H p => ⟨b, p⟩
theorem e_num (h : EvG l te Γ (pQ K m q)) : EvG l (tOp (rIxT K) te (tC (.int 0))) Γ (pV (.int q.num)) := e_ixT (i := 0) (K := K) (Ps := [pV (.int q.num), pV (.int (q.den : Int))]) rfl (q_f h)
theorem e_den (h : EvG l te Γ (pQ K m q)) : EvG l (tOp (rIxT K) te (tC (.int 1))) Γ (pV (.int (q.den : Int))) := e_ixT (i := 1) (K := K) (Ps := [pV (.int q.num), pV (.int (q.den : Int))]) rfl (q_f h)
/-- (n, 1) -/
theorem e_whole {i : Int} (h1 : i.natAbs < 2 ^ n) (hn : 1 ≤ n) (h : EvG l te Γ (pV (.int i))) : EvG l (tTup (tCons te (tCons (tC (.int 1)) tNil))) Γ (pQ K n (i : Rat)) :=
  (e_tup (K := K) (a_cons h (a_cons e_c a_nil))).imp fun v H p => ⟨bd_int h1 hn, by
    unfold pF
    rw [Rat.num_intCast, Rat.den_intCast]
    exact p⟩
end
/-! ### great numbers -/
/-- // by a positive divisor, the dividend below 2 ^ 13500: C divides by itself -/
def CDivB (i j : Int) : Prop := 0 < j ∧ i.natAbs < 2 ^ 13500
theorem digits_le {i : Int} (h : i.natAbs < 2 ^ 13500) : (if i == 0 then 0 else i.natAbs.log2 / 30 + 1) ≤ 450 := by
  by_cases hi : (i == 0) = true
  · rw [if_pos hi]
    omega
  · rw [if_neg hi]
    have hz : i.natAbs ≠ 0 := fun z => hi (by rw [Int.natAbs_eq_zero.mp z]; rfl)
    have := (Nat.log2_lt hz).mpr h
    omega
theorem noPylong {i j : Int} (h : i.natAbs < 2 ^ 13500) : Builtin.divisionGoesByPylong i j = false := by
  have hd := digits_le h
  unfold Builtin.divisionGoesByPylong
  rw [Bool.and_eq_false_iff]
  by_cases h3 : (if j == 0 then 0 else j.natAbs.log2 / 30 + 1) > 300
  · right
    refine decide_eq_false ?_
    clear h
    show ¬ ((if i == 0 then 0 else i.natAbs.log2 / 30 + 1) > (if j == 0 then 0 else j.natAbs.log2 / 30 + 1) + 150)
    omega
  · left
    exact decide_eq_false h3
section
variable {X : Cx}
theorem op_fdivB : OpR X (binaryOp .FloorDiv) (rI CDivB fun i j => .int (i / j)) := opI fun i j _ _ _ _ _ hc q => by
  have h1 : (0 : Int) < j := hc.1
  exact floordiv_int (by omega) (by rw [Int.fdiv_eq_ediv_of_nonneg i (by omega)]; exact q) (.inl (noPylong hc.2))
def rIsqrt : List V → Hp → VK → Prop := fun vs H Q => ∃ a : Int, vs = [.int a] ∧ 0 ≤ a ∧ a.natAbs < 2 ^ 13500 ∧ Q (.int ((Float64.isqrt a.toNat : Nat) : Int)) H
theorem cr_isqrt : CallR X (.builtin "math.isqrt") rIsqrt := by
  intro pins s σ H vs us Q I r h
  obtain ⟨a, rfl, h0, h1, q⟩ := h
  obtain ⟨u, rfl, ru⟩ := vals1 r
  obtain ⟨t, rfl⟩ := ru
  have hh : a.toNat ≤ a.natAbs := by
    clear h1
    omega
  have hl : a.toNat.log2 < 13500 := by
    by_cases z : a.toNat = 0
    · rw [z]
      decide
    · exact (Nat.log2_lt z).mpr (Nat.lt_of_le_of_lt hh h1)
  clear h1
  exact call_function_meets PySem.W.MGF.kind_isqrt PySem.W.MGF.plain_isqrt PySem.W.MGF.entry_isqrt (PySem.W.MGF.args_isqrt _) (PySem.W.mg_run_isqrt a t (by omega) (by omega) (by omega)).meets ⟨.int _, H, I.tok _, ⟨_, rfl⟩, q⟩
/-- an expression that is never come to -/
def tDead : TE := fun _ _ _ => False
theorem pe_dead {e : Expr} : PE X e tDead := ⟨fun _ _ _ _ _ _ h => h.elim⟩
def tDeadT : TT := fun _ _ _ => False
theorem pt_dead {e : Expr} : PT X e tDeadT := ⟨fun _ _ _ _ _ _ h => h.elim⟩
end
/-! ### the top -/
structure Txt (K : PySem.W.Frag) (mg : Str → Option Value) : Prop where
  glo : ∀ (i : Nat) {x : Str}, fa[i]? = some (.glo x) → mg x = some (.ref (He.ga K x))
  free : ∀ (i : Nat) {x : Str}, fa[i]? = some (.free x) → mg x = none
  says : He.SaysD fa fn K
  ex : exK K = true
  gcd : mg "gcd" = some (.builtin "math.gcd")
  isqrt : mg "isqrt" = some (.builtin "math.isqrt")
/-- a def of the top, called by its name -/
structure Fn (P : Program) (w : World) (K : PySem.W.Frag) (mg : Str → Option Value) (base : Heap) (k : Nat) (x : Str) (ps : List Str) (sp : Sp) : Prop where
  ex : ∃ (f : Addr) (fd : FuncData), FnOk P w K mg base CX0 k f fd ps sp ∧ mg x = some (.ref f) ∧ PySem.W.keepIn K (.ref f) = true ∧ Binds K fd ps []
section
variable {P : Program} {w : World} {K : PySem.W.Frag} {mg : Str → Option Value} {base : Heap}
theorem Fn.mono {j k : Nat} {x : Str} {ps : List Str} {sp : Sp} (F : Fn P w K mg base j x ps sp) (h : j ≤ k) : Fn P w K mg base k x ps sp := by
  obtain ⟨f, fd, a, b, c, d⟩ := F.ex
  exact ⟨f, fd, a.mono h, b, c, d⟩
theorem fn_mk {k : Nat} {x : Str} {st : Stmt} {N ps : List Str} {sp : Sp} (T : Txt K mg) (i j : Nat) (hd : fn[i]? = some ⟨(x, none), x, x, defArgs st, defBody st, defScope st, [], []⟩) (hg : fa[j]? = some (.glo x)) (S : FnScope N ps (defScope st))
    (len : ∀ vs H Q E, sp vs H Q E → vs.length = ps.length)
    (hb : ∀ (kV doc pm : Value) (an : Option Addr) (cdv ct : Value) (us : List Value), us.length = ps.length → bindArgs (PySem.W.fnOf x x (defArgs st) (defBody st) (defScope st) .none kV doc pm an cdv ct) ⟨us, []⟩ = pure (ps.zip us))
    (body : ∀ (f : Addr) (cdv : Value) (A : Around) (outer : List Env) (s : Shared) (H : Hp) (vs : List V) (Q : VK) (E : XK), Room k (A.deeper (envOfC x (defScope st) s.heap.objs.size f cdv)) → sp vs H Q E →
      ∃ t, PSs (cxOf CX0 P w K mg base N x (defScope st) f cdv A outer s H E).nox (defBody st) t ∧ t { nx := fun _ H' => Q .non H', rt := Q } (start N vs) H) : Fn P w K mg base (k + 1) x ps sp := by
  obtain ⟨fd, F⟩ := T.says.def_ i hd
  refine ⟨_, fd, FunD.ok F S len (fun cdv A outer s H vs Q E hr h => ?_), T.glo j hg, F.kp, FunD.bindsN F hb⟩
  obtain ⟨t, h1, h2⟩ := body _ cdv A outer s H vs Q E hr h
  exact ⟨t, h1.nox, h2⟩
end
section
variable {X : Cx} {k : Nat} {x : Str} {ps : List Str} {sp : Sp} {p pos : Pos} {e : Expr} {es : List Expr} {t : TA}
theorem pe_fn (F : Fn X.prog X.w X.K X.mg X.base k x ps sp) (hr : Room k X.A) (ha : PA X (e :: es) t) (hg : Gl X x := by rfl) (hdb : (x == ("__debug__" : Str)) = false := by decide)
    (he : starEach (e :: es) X.env = (false, eval e X.env) :: starEach es X.env := by rfl) (hpl : (backTo pos (starEach es X.env)).any (·.1) = false := by rfl) : PE X (.Call (.Name x p) (e :: es) [] pos) (tCall sp [] E0 t) := by
  obtain ⟨f, fd, F, hm, hk, hb⟩ := F.ex
  exact pe_call F hr hg hm hk hb .nil pass0 ha hdb he hpl
end
/-- a reading's start: what is known of the arguments -/
theorem fits_start {l : Option Addr} {H : Hp} {N : List Str} : ∀ {Ps : List Pd} {vs : List V}, BoxL l Ps vs H → Lo l H → Fits l (Ps.map some ++ List.replicate (N.length - vs.length) none) (start N vs) H := by
  intro Ps vs b lo
  refine ⟨lo, ?_⟩
  have gen : ∀ (Ps : List Pd) (vs : List V) (n : Nat), BoxL l Ps vs H → FitL l (Ps.map some ++ List.replicate n none) (vs.map some ++ List.replicate n none) H := by
    intro Ps
    induction Ps with
    | nil =>
      intro vs n b
      cases vs with
      | cons _ _ => exact b.elim
      | nil =>
        induction n with
        | zero => trivial
        | succ n ih => exact ih
    | cons P Ps ih =>
      intro vs n b
      cases vs with
      | nil => exact b.elim
      | cons v vs => exact ⟨b.1, ih vs n b.2⟩
  exact gen Ps vs (N.length - vs.length) b
/-- the argument's places -/
def ga0 (Ps : List Pd) : Nat → Ga
  | 0 => Ps.map some
  | n + 1 => ga0 Ps n ++ [none]
theorem fits0 {l : Option Addr} {H : Hp} {N : List Str} {Ps : List Pd} {vs : List V} {Γ : Ga} [MoL l Ps] (p : AllP Ps vs H) (lo : Lo l H) (e : Γ = Ps.map some ++ List.replicate (N.length - Ps.length) none) : Fits l Γ (start N vs) H := by
  have := fits_start (N := N) (boxL_of lo p) lo
  rw [AllP.len p] at this
  rw [e]
  exact this
end K30

/-! text: KBase -/
set_option Elab.async false
set_option linter.all false
set_option maxRecDepth 100000
set_option maxHeartbeats 4000000
/-! own layer, second part: loops, comprehensions, == of data -/
namespace K30
open PySem PySem.Spec PyProof.Rows L2 K30M
/-- all but lists (and what is known by its one object) stays -/
def Tup (K : PySem.W.Frag) (H H' : Hp) : Prop := ∀ a o, H a = some o → (∀ xs, o ≠ .lst xs) → (∀ φ, o ≠ .ext φ) → H' a = some o
theorem Tup.sq {K : PySem.W.Frag} {H H' : Hp} (u : Tup K H H') : ∀ a xs, SqT K H a xs → SqT K H' a xs := fun a xs h => by
  rcases h with (h | ⟨o, h⟩) | h
  · exact .inl (.inl (u a _ h (fun q z => by cases z) fun q z => by cases z))
  · exact .inl (.inr ⟨o, u a _ h (fun q z => by cases z) fun q z => by cases z⟩)
  · exact .inr h
theorem Tup.same {K : PySem.W.Frag} {H H' : Hp} (s : Same H H') : Tup K H H' := fun a o h _ _ => s a o h
theorem Tup.trans {K : PySem.W.Frag} {H H1 H2 : Hp} (a : Tup K H H1) (b : Tup K H1 H2) : Tup K H H2 := fun x o h n m => b x o (a x o h n m) n m
theorem Tup.up {l : Option Addr} {K : PySem.W.Frag} {H H' : Hp} (lo : Lo l H) (u : Up l H H') : Tup K H H' := fun a o h n _ => Up.at lo u h n
/-- a tracked list changes -/
theorem Tup.lst {K : PySem.W.Frag} {H : Hp} {D : Addr} {xs ys : List V} (e : H D = some (.lst xs)) : Tup K H (upd H D (.lst ys)) := fun a o h n _ => by
  have ne : a ≠ D := fun z => by
    rw [z, e] at h
    exact n _ (Option.some.inj h).symm
  rw [upd_ne ne]
  exact h
class MoT (K : PySem.W.Frag) (P : Pd) : Prop where
  mo : ∀ v H H', Tup K H H' → P v H → P v H'
class MoTL (K : PySem.W.Frag) (Ps : List Pd) : Prop where
  mo : ∀ vs H H', Tup K H H' → AllP Ps vs H → AllP Ps vs H'
section
variable {K : PySem.W.Frag} {P : Pd} {Ps : List Pd}
instance : MoTL K [] := ⟨fun vs H H' _ h => by cases vs <;> exact h⟩
instance [a : MoT K P] [b : MoTL K Ps] : MoTL K (P :: Ps) := ⟨fun vs H H' u h => by
  cases vs with
  | nil => exact h.elim
  | cons v vs => exact ⟨a.mo v H H' u h.1, b.mo vs H H' u h.2⟩⟩
instance {v : V} : MoT K (pV v) := ⟨fun _ _ _ _ h => h⟩
instance [m : MoTL K Ps] : MoT K (pT K Ps) := ⟨fun _ H H' u ⟨a, vs, e, s, p⟩ => ⟨a, vs, e, Tup.sq u a vs s, m.mo vs H H' u p⟩⟩
instance {α : Type} {C : α → Prop} {f : α → Pd} [m : ∀ x, MoT K (f x)] : MoT K (pX C f) := ⟨fun v H H' u ⟨x, c, p⟩ => ⟨x, c, (m x).mo v H H' u p⟩⟩
instance {q : Rat} : MoT K (pF K q) := by
  unfold pF
  infer_instance
instance {n : Nat} {q : Rat} : MoT K (pQ K n q) := ⟨fun v H H' u h => ⟨h.1, MoT.mo v H H' u h.2⟩⟩
instance {C : Prop} [MoT K P] : MoT K (pP C P) := ⟨fun v H H' u h => ⟨h.1, MoT.mo v H H' u h.2⟩⟩
end
theorem FitL.tup {K : PySem.W.Frag} {l : Option Addr} {H H' : Hp} (lo : Lo l H) (lo' : Lo l H') (u : Tup K H H') : ∀ {Γ : Ga} {σ : L2.St}, (∀ P, some P ∈ Γ → MoT K P) → FitL l Γ σ H → FitL l Γ σ H'
  | [], [], _, _ => trivial
  | [], _ :: _, _, h => h.elim
  | none :: _, [], _, h => h.elim
  | some _ :: _, [], _, h => h.elim
  | some _ :: _, none :: _, _, h => h.elim
  | none :: Γ, _ :: σ, m, h => by
    have h' : FitL l Γ σ H := h
    show FitL l Γ σ H'
    exact FitL.tup lo lo' u (fun P hP => m P (List.mem_cons_of_mem _ hP)) h'
  | some P :: _, some v :: _, m, h => ⟨fun H2 u2 => (m P List.mem_cons_self).mo v H H2 (u.trans (Tup.up lo' u2)) (Box.now lo h.1), FitL.tup lo lo' u (fun P hP => m P (List.mem_cons_of_mem _ hP)) h.2⟩
class MoE (K : PySem.W.Frag) (Γ : Ga) : Prop where
  all : ∀ P, some P ∈ Γ → MoT K P
instance {K : PySem.W.Frag} : MoE K [] := ⟨fun _ h => by cases h⟩
instance {K : PySem.W.Frag} {Γ : Ga} [b : MoE K Γ] : MoE K (none :: Γ) := ⟨fun P h => by
  rcases List.mem_cons.mp h with e | h
  · cases e
  · exact b.all P h⟩
instance {K : PySem.W.Frag} {Γ : Ga} {Q : Pd} [a : MoT K Q] [b : MoE K Γ] : MoE K (some Q :: Γ) := ⟨fun P h => by
  rcases List.mem_cons.mp h with e | h
  · cases e
    exact a
  · exact b.all P h⟩
theorem Fits.tup {K : PySem.W.Frag} {l : Option Addr} {H H' : Hp} {Γ : Ga} {σ : L2.St} [m : MoE K Γ] (f : Fits l Γ σ H) (lo' : Lo l H') (u : Tup K H H') : Fits l Γ σ H' := ⟨lo', FitL.tup f.1 lo' u m.all f.2⟩
section
variable {H : Hp}
theorem AllP.snoc : ∀ {Ps : List Pd} {vs : List V} {P : Pd} {v : V}, AllP Ps vs H → P v H → AllP (Ps ++ [P]) (vs ++ [v]) H
  | [], [], _, _, _, h => ⟨h, trivial⟩
  | [], _ :: _, _, _, h, _ => h.elim
  | _ :: _, [], _, _, h, _ => h.elim
  | _ :: _, _ :: _, _, _, h, h2 => ⟨h.1, AllP.snoc h.2 h2⟩
end
/-- pairs of predicates, one by one -/
def Elts (f : Pd → Pd → Prop) : List Pd → List Pd → Prop
  | [], [] => True
  | P :: Ps, R :: Rs => f P R ∧ Elts f Ps Rs
  | _, _ => False
theorem Elts.len {f : Pd → Pd → Prop} : ∀ {Ps Rs : List Pd}, Elts f Ps Rs → Ps.length = Rs.length
  | [], [], _ => rfl
  | [], _ :: _, h => h.elim
  | _ :: _, [], h => h.elim
  | _ :: _, _ :: _, h => congrArg (· + 1) (Elts.len h.2)
theorem Elts.at {f : Pd → Pd → Prop} : ∀ {Ps Rs : List Pd} {i : Nat} {P : Pd}, Elts f Ps Rs → Ps[i]? = some P → ∃ R, Rs[i]? = some R ∧ f P R
  | [], [], _, _, _, e => by simp at e
  | [], _ :: _, _, _, h, _ => h.elim
  | _ :: _, [], _, _, h, _ => h.elim
  | _ :: _, R :: _, 0, P, h, e => by
    simp at e
    subst e
    exact ⟨R, rfl, h.1⟩
  | _ :: _, _ :: _, i + 1, P, h, e => by
    obtain ⟨R, e1, e2⟩ := Elts.at (i := i) (P := P) h.2 (by simpa using e)
    exact ⟨R, by simpa using e1, e2⟩
class MoTA (K : PySem.W.Frag) (Ps : List Pd) : Prop where
  all : ∀ P ∈ Ps, MoT K P
instance {K : PySem.W.Frag} : MoTA K [] := ⟨fun _ h => by cases h⟩
instance {K : PySem.W.Frag} {P : Pd} {Ps : List Pd} [a : MoT K P] [b : MoTA K Ps] : MoTA K (P :: Ps) := ⟨fun Q h => by
  rcases List.mem_cons.mp h with e | h
  · rw [e]
    exact a
  · exact b.all Q h⟩
theorem motl_of {K : PySem.W.Frag} : ∀ {Ps : List Pd}, (∀ P ∈ Ps, MoT K P) → MoTL K Ps
  | [], _ => inferInstance
  | P :: Ps, h => by
    have := h P List.mem_cons_self
    have := motl_of (Ps := Ps) fun Q q => h Q (List.mem_cons_of_mem _ q)
    infer_instance
/-! ### the block's own names -/
theorem FitL.out {l : Option Addr} {H : Hp} : ∀ {Γ : Ga} {σ : L2.St} {i : Nat} {o : Option V}, FitL l Γ σ H → FitL l (pt Γ i none) (σ.set i o) H
  | [], [], _, _, _ => trivial
  | [], _ :: _, _, _, h => h.elim
  | none :: _, [], _, _, h => h.elim
  | some _ :: _, [], _, _, h => h.elim
  | some _ :: _, none :: _, _, _, h => h.elim
  | none :: Γ, _ :: σ, 0, o, h => by
    have h' : FitL l Γ σ H := h
    show FitL l Γ σ H
    exact h'
  | none :: Γ, _ :: σ, i + 1, o, h => by
    have h' : FitL l Γ σ H := h
    show FitL l (pt Γ i none) (σ.set i o) H
    exact FitL.out h'
  | some _ :: Γ, some _ :: σ, 0, o, h => by
    show FitL l Γ σ H
    exact h.2
  | some _ :: Γ, some _ :: σ, i + 1, o, h => ⟨h.1, FitL.out h.2⟩
/-- Γ without these -/
def wipeG (Γ : Ga) : List Nat → Ga
  | [] => Γ
  | v :: vs => pt (wipeG Γ vs) v none
theorem Fits.wipe {l : Option Addr} {H : Hp} {Γ : Ga} {σ : L2.St} (f : Fits l Γ σ H) : ∀ vs : List Nat, Fits l (wipeG Γ vs) (wipe σ vs) H
  | [] => f
  | v :: vs => ⟨f.1, FitL.out (Fits.wipe f vs).2⟩
theorem BoxL.at {l : Option Addr} {H : Hp} : ∀ {Qs : List Pd} {ys : List V} {k : Nat} {Q : Pd} {y : V}, BoxL l Qs ys H → Qs[k]? = some Q → ys[k]? = some y → Box l Q y H
  | [], _, _, _, _, _, e, _ => by simp at e
  | _ :: _, [], _, _, _, h, _, _ => h.elim
  | A :: _, z :: _, 0, Q, y, h, e, e2 => by
    simp at e e2
    subst e e2
    exact h.1
  | _ :: As, _ :: zs, k + 1, Q, y, h, e, e2 => BoxL.at (k := k) h.2 (by simpa using e) (by simpa using e2)
/-- what one turn of a comprehension does: from the item P to the element R -/
def Turn1 (g : TG) (telt : TE) (vs : List Nat) (Γ : Ga) (P R : Pd) : Prop :=
  ∀ v σ H (Q : V → Hp → Prop), Fits none Γ σ H → Box none P v H → (∀ y H', Same H H' → Box none R y H' → Q y H') → g v (wipe σ vs) H fun σ2 H2 => wipe σ2 vs = wipe σ vs ∧ telt σ2 H2 Q
theorem turn1_name {Γ : Ga} {i : Nat} {telt : TE} {P R : Pd} (h : EvG none telt (pt (wipeG Γ [i]) i (some P)) R) : Turn1 (gName i) telt [i] Γ P R := fun v σ H Q f b q => by
  refine ⟨?_, h _ H Q ((f.wipe [i]).put b) q⟩
  show ((σ.set i none).set i (some v)).set i none = σ.set i none
  rw [List.set_set, List.set_set]
theorem turn1_two {K : PySem.W.Frag} {Γ : Ga} {i j : Nat} {telt : TE} {P P' R : Pd} [MoL none [P, P']] (ne : i ≠ j) (h : EvG none telt (pt (pt (wipeG Γ [i, j]) i (some P)) j (some P')) R) : Turn1 (gTup K 2 (gCons (gName i) (gCons (gName j) gNil))) telt [i, j] Γ (pT K [P, P']) R := fun v σ H Q f b q => by
  obtain ⟨a, vs, e, s, p⟩ := Box.now f.1 b
  · obtain ⟨x, y, rfl, _⟩ := AllP.two p
    have bb := boxL_of (l := none) (vs := [x, y]) f.1 p
    refine ⟨a, [x, y], e, s, rfl, x, [y], rfl, y, [], rfl, rfl, ?_, h _ H Q (((f.wipe [i, j]).put bb.1).put bb.2.1) q⟩
    show ((((((σ.set j none).set i none).set i (some x)).set j (some y)).set j none).set i none) = (σ.set j none).set i none
    rw [List.set_set, List.set_set, List.set_comm _ _ (Ne.symm ne), List.set_set, List.set_comm _ _ ne, List.set_set]
section
variable {K : PySem.W.Frag} {Γ : Ga} {Ps Rs : List Pd} {te telt : TE} {g : TG} {vs : List Nat}
theorem take_at {α : Type} {l : List α} {i : Nat} {x : α} (h : l[i]? = some x) : l.take (i + 1) = l.take i ++ [x] := by
  rw [List.take_add_one, h]
  rfl
/-- the walk over the items of a comprehension -/
theorem lc_gen {H0 H1 : Hp} {σ : L2.St} {D : Addr} {xs : List V} {Q : V → Hp → Prop} [m : MoTA K Rs] (f : Fits none Γ σ H1) (b : BoxL none Ps xs H1) (h : Elts (Turn1 g telt vs Γ) Ps Rs) (nD : H1 D = none) (small : Ps.length ≤ 1000)
    (q : ∀ v H', Same H1 H' → Box none (pL K Rs) v H' → Q v H') :
    (∀ i x H, xs[i]? = some x → (Same H1 H ∧ ∃ acc, H D = some (.lst acc) ∧ AllP (Rs.take i) acc H) → g x (wipe σ vs) H fun σ2 H2 => wipe σ2 vs = wipe σ vs ∧ tYes σ2 H2 fun c H3 =>
      if c = true then telt σ2 H3 fun y H4 => ∃ acc, H4 D = some (.lst acc) ∧ acc.length < sizeLine ∧ (Same H1 (upd H4 D (.lst (acc ++ [y]))) ∧ ∃ acc', (upd H4 D (.lst (acc ++ [y]))) D = some (.lst acc') ∧ AllP (Rs.take (i + 1)) acc' (upd H4 D (.lst (acc ++ [y])))) else (Same H1 H3 ∧ ∃ acc, H3 D = some (.lst acc) ∧ AllP (Rs.take (i + 1)) acc H3)) ∧
    ∀ H, (Same H1 H ∧ ∃ acc, H D = some (.lst acc) ∧ AllP (Rs.take xs.length) acc H) → Q (.ref D) H := by
  have lx := AllP.len (BoxL.now f.1 b)
  have lr := Elts.len h
  refine ⟨fun i x H hx hp => ?_, fun H hp => ?_⟩
  · obtain ⟨s, acc, eD, hacc⟩ := hp
    have hi : i < xs.length := (List.getElem?_eq_some_iff.mp hx).1
    have hP : Ps[i]? = some Ps[i] := List.getElem?_eq_getElem (by omega)
    obtain ⟨R, hR, t⟩ := Elts.at h hP
    have bx : Box none Ps[i] x H1 := BoxL.at b hP hx
    have key : ∀ Z : Hp → Prop, (fun (σ2 : L2.St) (H2 : Hp) => wipe σ2 vs = wipe σ vs ∧ tYes σ2 H2 fun c H3 => if c = true then telt σ2 H3 fun y H4 => ∃ acc, H4 D = some (.lst acc) ∧ acc.length < sizeLine ∧ (Same H1 (upd H4 D (.lst (acc ++ [y]))) ∧ ∃ acc', (upd H4 D (.lst (acc ++ [y]))) D = some (.lst acc') ∧ AllP (Rs.take (i + 1)) acc' (upd H4 D (.lst (acc ++ [y])))) else Z H3) =
        fun σ2 H2 => wipe σ2 vs = wipe σ vs ∧ telt σ2 H2 fun y H4 => ∃ acc, H4 D = some (.lst acc) ∧ acc.length < sizeLine ∧ (Same H1 (upd H4 D (.lst (acc ++ [y]))) ∧ ∃ acc', (upd H4 D (.lst (acc ++ [y]))) D = some (.lst acc') ∧ AllP (Rs.take (i + 1)) acc' (upd H4 D (.lst (acc ++ [y])))) := fun Z => by
      funext σ2 H2
      exact congrArg (fun z => wipe σ2 vs = wipe σ vs ∧ z) (by
        unfold tYes
        exact if_pos rfl)
    rw [key]
    refine t x σ H _ (f.up s) (Box.up s bx) fun y H4 s4 by4 => ?_
    have e4 := s4 _ _ eD
    have la := AllP.len hacc
    have hM : MoTL K (Rs.take i) := motl_of fun P hp => m.all P (List.mem_of_mem_take hp)
    have hMR : MoT K R := m.all R (List.mem_of_getElem? hR)
    refine ⟨acc, e4, ?_, Same.mut (s.trans s4) nD, _, upd_same, ?_⟩
    · have : acc.length ≤ 1000 := by
        rw [la, List.length_take]
        omega
      exact small1000 this
    · rw [take_at hR]
      exact AllP.snoc (hM.mo _ _ _ ((Tup.same s4).trans (Tup.lst e4)) hacc) (hMR.mo _ _ _ (Tup.lst e4) (Box.now (l := none) (show Lo none H4 from trivial) by4))
  · obtain ⟨s, acc, eD, hacc⟩ := hp
    have hM : MoTL K Rs := motl_of m.all
    refine q _ H s fun H' u => ⟨D, acc, rfl, .inl (.inl (u _ _ eD)), hM.mo _ _ _ (Tup.same u) ?_⟩
    rw [List.take_of_length_le (by omega)] at hacc
    exact hacc
end
section
variable {K : PySem.W.Frag} {Γ : Ga} {Ps Rs : List Pd} {te telt : TE} {g : TG} {vs : List Nat}
/-- [elt for g in a tuple] -/
theorem e_lcT [m : MoTA K Rs] [mm : MoL none Ps] (hs : EvG none te Γ (pT K Ps)) (h : Elts (Turn1 g telt vs Γ) Ps Rs) (small : Ps.length ≤ 1000 := by first | decide | simp) : EvG none (tLc (iTup K te) g tYes telt vs) Γ (pL K Rs) := fun σ H0 Q f q =>
  hs σ H0 _ f fun v H1 u1 b1 => by
    obtain ⟨a, xs, e, s, p⟩ := Box.now u1.lo b1
    refine ⟨a, e, ⟨xs, s⟩, fun D nD => ?_⟩
    obtain ⟨k1, k2⟩ := lc_gen (H0 := H0) (Q := Q) (f.up u1) (boxL_of u1.lo p) h nD small fun v H' u b => q v H' (u1.trans u) b
    exact lc_tup (K := K) (a := a) (xs := xs) (fun i H => Same H1 H ∧ ∃ acc, H D = some (.lst acc) ∧ AllP (Rs.take i) acc H) ⟨Same.new nD, [], upd_same, trivial⟩ (fun i H _ hp => Same.sqT hp.1 s) k1 k2
theorem e_lcL [m : MoTA K Rs] [mm : MoL none Ps] (hs : EvG none te Γ (pL K Ps)) (h : Elts (Turn1 g telt vs Γ) Ps Rs) (small : Ps.length ≤ 1000 := by first | decide | simp) : EvG none (tLc (iList K te) g tYes telt vs) Γ (pL K Rs) := fun σ H0 Q f q =>
  hs σ H0 _ f fun v H1 u1 b1 => by
    obtain ⟨a, xs, e, s, p⟩ := Box.now u1.lo b1
    refine ⟨a, e, ⟨xs, s⟩, fun D nD => ?_⟩
    obtain ⟨k1, k2⟩ := lc_gen (H0 := H0) (Q := Q) (f.up u1) (boxL_of u1.lo p) h nD small fun v H' u b => q v H' (u1.trans u) b
    exact lc_list (K := K) (a := a) (xs := xs) (fun i H => Same H1 H ∧ ∃ acc, H D = some (.lst acc) ∧ AllP (Rs.take i) acc H) ⟨Same.new nD, [], upd_same, trivial⟩ (fun i H _ hp => Same.seq hp.1 s) k1 k2
end
/-! ### for -/
section
variable {l : Option Addr} {H0 : Hp} {D : Ends} {K : PySem.W.Frag} {Ps : List Pd} {te : TE} {tb t : TS} {i n : Nat} {ta : TA}
/-- a turn: from what is known ahead of it to what is known behind it; D' the ends within the loop -/
def TurnF (l : Option Addr) (H0 : Hp) (tb : TS) (D : Ends) (bk : L2.St → Hp → Prop) (Γ Δ : Ga) : Prop := ∀ N : L2.St → Hp → Prop, (∀ σ H, Up l H0 H → Fits l Δ σ H → N σ H) → Run l H0 tb { D with nx := N, ct := N, bk := bk } Γ
/-- over a tuple -/
theorem r_forT [mm : MoL l Ps] (Γs : Nat → Ga) (hs : EvG l te (Γs 0) (pT K Ps)) (step : ∀ H1, Up l H0 H1 → ∀ k P, Ps[k]? = some P → TurnF l H1 tb { D with nx := t D } (t D) (pt (Γs k) i (some P)) (Γs (k + 1)))
    (after : Run l H0 t D (Γs Ps.length)) : Run l H0 (tSeq (tFor (iTup K te) (gName i) tb) t) D (Γs 0) := fun σ H u f =>
  hs σ H _ f fun v H1 u1 b1 => by
    obtain ⟨a, xs, e, s, p⟩ := Box.now u1.lo b1
    have bl := boxL_of (l := l) u1.lo p
    have lx := AllP.len p
    refine ⟨a, e, ⟨xs, s⟩, for_tup (K := K) (a := a) (xs := xs) (fun k σ' H' => Up l H0 H' ∧ Up l H1 H' ∧ Fits l (Γs k) σ' H') ⟨u.trans u1, Up.refl u1.lo, f.up u1⟩ (fun k σ' H' _ hp => Up.tup u1.lo hp.2.1 s) (fun k x σ' H' hx hp => ?_) fun σ' H' hp => ?_⟩
    · have hk : k < xs.length := (List.getElem?_eq_some_iff.mp hx).1
      have hP : Ps[k]? = some Ps[k] := List.getElem?_eq_getElem (by omega)
      have bx : Box l Ps[k] x H1 := BoxL.at bl hP hx
      exact step H1 (u.trans u1) k _ hP _ (fun σ2 H2 u2 f2 => ⟨(u.trans u1).trans u2, u2, f2⟩) _ H' hp.2.1 (hp.2.2.put (Box.up hp.2.1 bx))
    · have := after σ' H' hp.1 (by rw [← lx]; exact hp.2.2)
      exact this
end
/-! ### == of data -/
section
variable {l : Option Addr} {Γ : Ga} {K : PySem.W.Frag} {P P' : Pd} {ta tb : TE} {d e : PyData} {b c : Bool}
theorem e_eqD (h1 : ∀ v H, P v H → Dp K H v d) (h2 : ∀ v H, P' v H → Dp K H v e) (s1 : SeqAt.shaped d = true) (s2 : SeqAt.shaped e = true) (ha : EvG l ta Γ P) (hb : EvG l tb Γ P') : EvG l (tOp (rEqD K) ta tb) Γ (pV (.bl (PyData.eqv d e))) :=
  e_op (fun x y H Q hx hy k => ⟨d, e, h1 x H hx, h2 y H hy, s1, s2, k _ H (Same.refl H) rfl⟩) ha hb
theorem e_neD (h1 : ∀ v H, P v H → Dp K H v d) (h2 : ∀ v H, P' v H → Dp K H v e) (s1 : SeqAt.shaped d = true) (s2 : SeqAt.shaped e = true) (ha : EvG l ta Γ P) (hb : EvG l tb Γ P') : EvG l (tOp (rNeD K) ta tb) Γ (pV (.bl (!PyData.eqv d e))) :=
  e_op (fun x y H Q hx hy k => ⟨d, e, h1 x H hx, h2 y H hy, s1, s2, k _ H (Same.refl H) rfl⟩) ha hb
theorem e_bl (h : EvG l ta Γ (pV (.bl b))) (e : b = c) : EvG l ta Γ (pV (.bl c)) := e ▸ h
theorem e_int {m n : Int} (h : EvG l ta Γ (pV (.int m))) (e : m = n) : EvG l ta Γ (pV (.int n)) := e ▸ h
theorem e_to (h : EvG l ta Γ P) (e : P = P') : EvG l ta Γ P' := e ▸ h
def dF (q : Rat) : PyData := .tuple [.int q.num, .int (q.den : Int)]
theorem dp_f {q : Rat} : ∀ v H, pF K q v H → Dp K H v (dF q) := fun v H ⟨a, vs, e, s, p⟩ => by
  · obtain ⟨x, y, rfl, e1, e2⟩ := AllP.two p
    have e1 : x = .int q.num := e1
    have e2 : y = .int (q.den : Int) := e2
    subst e e1 e2
    exact .tup s (.cons (.int _) (.cons (.int _) .nil))
theorem dp_q {n : Nat} {q : Rat} : ∀ v H, pQ K n q v H → Dp K H v (dF q) := fun v H h => dp_f v H h.2
theorem dF_shaped (q : Rat) : SeqAt.shaped (dF q) = true := rfl
theorem dF_eqv (x y : Rat) : PyData.eqv (dF x) (dF y) = decide (x = y) := by
  have : PyData.eqv (dF x) (dF y) = (x.num == y.num && ((x.den : Int) == (y.den : Int) && true)) := by
    simp only [dF, PyData.eqv, PyData.eqvAll]
  rw [this]
  by_cases h : x = y
  · subst h
    simp
  · rw [decide_eq_false h]
    by_cases h1 : x.num = y.num
    · have h2 : x.den ≠ y.den := fun z => h (Rat.ext h1 z)
      have h3 : ¬ ((x.den : Int) = (y.den : Int)) := fun z => h2 (by omega)
      simp [h3]
    · simp [h1]
theorem e_eqQ {m n : Nat} {x y : Rat} (ha : EvG l ta Γ (pQ K m x)) (hb : EvG l tb Γ (pQ K n y)) : EvG l (tOp (rEqD K) ta tb) Γ (pV (.bl (decide (x = y)))) := e_bl (e_eqD dp_q dp_q (dF_shaped x) (dF_shaped y) ha hb) (dF_eqv x y)
end
instance (n : Nat) (q : Rat) : Decidable (Bd n q) := inferInstanceAs (Decidable (_ ∧ _))
/-! ### the written part's fractions -/
section
variable {K : PySem.W.Frag}
theorem sqT_of_tupAt {a : Addr} {vs : List V} (h : tupAt K a vs = true) (H : Hp) : SqT K H a vs := by
  unfold tupAt at h
  cases q : K.lookup a with
  | none =>
    rw [q] at h
    cases h
  | some o =>
    obtain ⟨oc, od, dt, osl⟩ := o
    rw [q] at h
    cases oc with
    | type c =>
      cases dt with
      | seq its n =>
        obtain ⟨h1, h2⟩ := He.ba h
        obtain ⟨h3, h4⟩ := He.ba h2
        exact .inr ⟨_, its, n, q, congrArg Value.type (of_decide_eq_true h1), rfl, of_decide_eq_true h3, He.relAll_ok h4⟩
      | _ => cases h
    | _ => cases dt <;> cases h
theorem pF_of_pairAt {a : Addr} {n d : Int} {q : Rat} (h : pairAt K a n d = true) (en : q.num = n) (ed : (q.den : Int) = d) (H : Hp) : pF K q (.ref a) H :=
  ⟨a, [.int n, .int d], rfl, sqT_of_tupAt h H, by show V.int n = V.int q.num; rw [en], by show V.int d = V.int (q.den : Int); rw [ed], trivial⟩
/-- a pair of fractions of a size -/
def pP2 (K : PySem.W.Frag) (n : Nat) (h : Rat × Rat) : Pd := pT K [pQ K n h.1, pQ K n h.2]
theorem exK_all (h : exK K = true) : pairAt K (He.ga K "ZERO") 0 1 = true ∧ pairAt K (He.ga K "ONE") 1 1 = true ∧ pairAt K (He.ga K "FOUR") 4 1 = true ∧
    tupAt K (He.ga K "SAMPLES") ((List.range 8).map fun i => .ref (itAt i (He.ga K "SAMPLES") K)) = true ∧
    sampAt K 0 1 1 0 1 = true ∧ sampAt K 1 0 1 1 1 = true ∧ sampAt K 2 (-1) 1 0 1 = true ∧ sampAt K 3 0 1 (-1) 1 = true ∧ sampAt K 4 3 5 4 5 = true ∧ sampAt K 5 (-3) 5 4 5 = true ∧ sampAt K 6 (-3) 5 (-4) 5 = true ∧ sampAt K 7 3 5 (-4) 5 = true := by
  unfold exK at h
  obtain ⟨_, h⟩ := He.ba h
  obtain ⟨_, h⟩ := He.ba h
  obtain ⟨h1, h⟩ := He.ba h
  obtain ⟨h2, h⟩ := He.ba h
  obtain ⟨h3, h⟩ := He.ba h
  obtain ⟨h4, h⟩ := He.ba h
  obtain ⟨k0, h⟩ := He.ba h
  obtain ⟨k1, h⟩ := He.ba h
  obtain ⟨k2, h⟩ := He.ba h
  obtain ⟨k3, h⟩ := He.ba h
  obtain ⟨k4, h⟩ := He.ba h
  obtain ⟨k5, h⟩ := He.ba h
  obtain ⟨k6, k7⟩ := He.ba h
  exact ⟨h1, h2, h3, h4, k0, k1, k2, k3, k4, k5, k6, k7⟩
theorem samp_ok {i : Nat} {c cd s sd : Int} {x y : Rat} (h : sampAt K i c cd s sd = true) (e1 : x.num = c) (e2 : (x.den : Int) = cd) (e3 : y.num = s) (e4 : (y.den : Int) = sd) (b1 : Bd 16 x) (b2 : Bd 16 y) (H : Hp) : pP2 K 16 (x, y) (.ref (itAt i (He.ga K "SAMPLES") K)) H := by
  unfold sampAt unitAt at h
  obtain ⟨h1, h2⟩ := He.ba h
  obtain ⟨h3, h4⟩ := He.ba h2
  exact ⟨_, _, rfl, sqT_of_tupAt h1 H, ⟨b1, pF_of_pairAt h3 e1 e2 H⟩, ⟨b2, pF_of_pairAt h4 e3 e4 H⟩, trivial⟩
variable {mg : Str → Option Value} {l : Option Addr} {Γ : Ga}
theorem gl_ZERO (T : Txt K mg) : EvG l (tC (.ref (He.ga K "ZERO"))) Γ (pQ K 1 0) := e_cP fun H => ⟨by decide +kernel, pF_of_pairAt (exK_all T.ex).1 rfl rfl H⟩
theorem gl_ONE (T : Txt K mg) : EvG l (tC (.ref (He.ga K "ONE"))) Γ (pQ K 1 1) := e_cP fun H => ⟨by decide +kernel, pF_of_pairAt (exK_all T.ex).2.1 rfl rfl H⟩
theorem gl_FOUR (T : Txt K mg) : EvG l (tC (.ref (He.ga K "FOUR"))) Γ (pQ K 3 4) := e_cP fun H => ⟨by decide +kernel, pF_of_pairAt (exK_all T.ex).2.2.1 rfl rfl H⟩
theorem gl_SAMPLES (T : Txt K mg) : EvG none (tC (.ref (He.ga K "SAMPLES"))) Γ (pT K (samples.map (pP2 K 16))) := e_cP (mo := by unfold samples; simp only [List.map]; unfold pP2; infer_instance) fun H => by
  obtain ⟨_, _, _, hs, k0, k1, k2, k3, k4, k5, k6, k7⟩ := exK_all T.ex
  refine ⟨_, _, rfl, sqT_of_tupAt hs H, ?_⟩
  exact ⟨samp_ok k0 rfl rfl rfl rfl (by decide +kernel) (by decide +kernel) H, samp_ok k1 rfl rfl rfl rfl (by decide +kernel) (by decide +kernel) H, samp_ok k2 rfl rfl rfl rfl (by decide +kernel) (by decide +kernel) H, samp_ok k3 rfl rfl rfl rfl (by decide +kernel) (by decide +kernel) H,
    samp_ok k4 rfl rfl rfl rfl (by decide +kernel) (by decide +kernel) H, samp_ok k5 rfl rfl rfl rfl (by decide +kernel) (by decide +kernel) H, samp_ok k6 rfl rfl rfl rfl (by decide +kernel) (by decide +kernel) H, samp_ok k7 rfl rfl rfl rfl (by decide +kernel) (by decide +kernel) H, trivial⟩
end
/-- a def's end -/
theorem r_done {H0 : Hp} {te : TE} {Γ : Ga} {P : Pd} {D : Ends} (h : EvG none te Γ P) (k : ∀ v H', Same H0 H' → P v H' → D.rt v H') : Run none H0 (tRet te) D Γ := r_ret h fun v H u b => k v H u (Box.now (l := none) (show Lo none H from trivial) b)
/-- a def's end, where it has drawn -/
theorem r_doneL {a : Addr} {H0 : Hp} {te : TE} {Γ : Ga} {P : Pd} {D : Ends} (h : EvG (some a) te Γ P) (k : ∀ v H', Up (some a) H0 H' → P v H' → D.rt v H') : Run (some a) H0 (tRet te) D Γ := r_ret h fun v H u b => k v H u (Box.now u.lo b)
end K30

/-! text: KBlt -/
set_option Elab.async false
set_option linter.all false
set_option maxRecDepth 100000
set_option maxHeartbeats 4000000
/-! own layer, third part: built-ins -/
namespace K30
open PySem PySem.Spec PyProof.Rows L2 K30M
section
variable {l : Option Addr} {Γ : Ga} {K : PySem.W.Frag} {P P' R : Pd} {Ps : List Pd} {te ta tb : TE} {b : Bool} {m n : Int}
theorem ty_int {i : Int} : ∀ v H, pV (.int i) v H → TyX K H v (.type "int") := fun v H e => by
  have e : v = .int i := e
  rw [e]
  exact .base (.int i)
theorem ty_tup : ∀ v H, pT K Ps v H → TyX K H v (.type "tuple") := fun v H ⟨a, vs, e, s, p⟩ => by
  subst e
  rcases s with (e | ⟨o, e⟩) | ⟨o, its, n, e, c, _⟩
  · exact .base (.tup e)
  · exact .fTuple e
  · exact .kTuple e c
theorem e_isi {t c : String} (hty : ∀ v H, P v H → TyX K H v (.type t)) (hk : kitB t c = some b) (h : EvG l te Γ P) : EvG l (tCB (rIsi K) (tCons te (tCons (tC (.ty c)) tNil))) Γ (pV (.bl b)) :=
  e_cb (Ps := [P, pV (.ty c)]) (fun vs H Q p k => by
    · obtain ⟨x, y, rfl, p1, e2⟩ := AllP.two p
      have e2 : y = .ty c := e2
      subst e2
      exact ⟨x, .ty c, .type t, .type c, b, rfl, .ty c, hty x H p1, kit_ty hk, k _ H (Same.refl H) rfl⟩) (a_cons h (a_cons e_c a_nil))
abbrev rLenS (K : PySem.W.Frag) : List V → Hp → VK → Prop := fun xs H Q => ∃ p ys, xs = [.ref p] ∧ (SqL K H p ys ∨ SqT K H p ys) ∧ Q (.int ys.length) H
theorem e_lenT (h : EvG l te Γ (pT K Ps)) : EvG l (tCB (rLenS K) (tCons te tNil)) Γ (pV (.int (Ps.length : Int))) :=
  e_cb (Ps := [pT K Ps]) (fun vs H Q p k => by
    · obtain ⟨x, rfl, a, ys, e, s, q⟩ := AllP.one p
      subst e
      exact ⟨a, ys, rfl, .inr s, k _ H (Same.refl H) (by rw [AllP.len q]; rfl)⟩) (a_cons h a_nil)
theorem e_lenL (h : EvG none te Γ (pL K Ps)) : EvG none (tCB (rLenS K) (tCons te tNil)) Γ (pV (.int (Ps.length : Int))) :=
  e_cb (Ps := [pL K Ps]) (fun vs H Q p k => by
    · obtain ⟨x, rfl, a, ys, e, s, q⟩ := AllP.one p
      subst e
      exact ⟨a, ys, rfl, .inl s, k _ H (Same.refl H) (by rw [AllP.len q]; rfl)⟩) (a_cons h a_nil)
theorem bls_of {H : Hp} : ∀ {bs : List Bool} {vs : List V}, AllP (bs.map fun b => pV (.bl b)) vs H → vs = bs.map V.bl
  | [], [], _ => rfl
  | [], _ :: _, h => h.elim
  | _ :: _, [], h => h.elim
  | b :: bs, v :: vs, h => by
    have e : v = .bl b := h.1
    rw [e, bls_of h.2]
    rfl
theorem e_all {bs : List Bool} (e : Ps = bs.map fun b => pV (.bl b)) (h : EvG none te Γ (pL K Ps)) : EvG none (tCB (rAll K) (tCons te tNil)) Γ (pV (.bl (bs.all id))) := by
  subst e
  exact e_cb (Ps := [pL K (bs.map fun b => pV (.bl b))]) (fun vs H Q p k => by
    · obtain ⟨x, rfl, a, ys, e, s, q⟩ := AllP.one p
      subst e
      have := bls_of q
      subst this
      exact ⟨a, bs, rfl, s, k _ H (Same.refl H) rfl⟩) (a_cons h a_nil)
abbrev rTuple (K : PySem.W.Frag) : List V → Hp → VK → Prop := fun xs H Q => ∃ p ys, xs = [.ref p] ∧ ((SqL K H p ys ∧ ∀ l, H l = none → Q (.ref l) (upd H l (.tup ys))) ∨ (SqT K H p ys ∧ Q (.ref p) H))
theorem e_tupL [MoL none Ps] [mt : MoL none Ps] (h : EvG none te Γ (pL K Ps)) : EvG none (tCB (rTuple K) (tCons te tNil)) Γ (pT K Ps) :=
  e_cb (Ps := [pL K Ps]) (fun vs H Q p k => by
    · obtain ⟨x, rfl, a, ys, e, s, q⟩ := AllP.one p
      subst e
      refine ⟨a, ys, rfl, .inl ⟨s, fun t nt => ?_⟩⟩
      have u : Same H (upd H t (.tup ys)) := Same.new nt
      exact k _ _ u ⟨t, ys, rfl, .inl (.inl upd_same), mt.mo ys _ _ trivial u q⟩) (a_cons h a_nil)
theorem e_tupT [MoL l Ps] (h : EvG l te Γ (pT K Ps)) : EvG l (tCB (rTuple K) (tCons te tNil)) Γ (pT K Ps) :=
  e_cb (Ps := [pT K Ps]) (fun vs H Q p k => by
    · obtain ⟨x, rfl, a, ys, e, s, q⟩ := AllP.one p
      subst e
      exact ⟨a, ys, rfl, .inr ⟨s, k _ _ (Same.refl H) ⟨a, ys, rfl, s, q⟩⟩⟩) (a_cons h a_nil)
theorem e_gcd (ha : EvG l ta Γ (pV (.int m))) (hb : EvG l tb Γ (pV (.int n))) : EvG l (tCB rGcd (tCons ta (tCons tb tNil))) Γ (pV (.int (gcdI m n))) :=
  e_cb (Ps := [pV (.int m), pV (.int n)]) (fun vs H Q p k => by
    · obtain ⟨x, y, rfl, e1, e2⟩ := AllP.two p
      have e1 : x = .int m := e1
      have e2 : y = .int n := e2
      subst e1 e2
      exact ⟨m, n, rfl, k _ H (Same.refl H) rfl⟩) (a_cons ha (a_cons hb a_nil))
theorem e_isqrt (ha : EvG l ta Γ (pV (.int m))) (h0 : 0 ≤ m) (h1 : m.natAbs < 2 ^ 13500) : EvG l (tCB rIsqrt (tCons ta tNil)) Γ (pV (.int ((Float64.isqrt m.toNat : Nat) : Int))) :=
  e_cb (Ps := [pV (.int m)]) (fun vs H Q p k => by
    · obtain ⟨x, rfl, e1⟩ := AllP.one p
      have e1 : x = .int m := e1
      subst e1
      exact ⟨m, rfl, h0, h1, k _ H (Same.refl H) rfl⟩) (a_cons ha a_nil)
abbrev rAbs : List V → Hp → VK → Prop := fun xs H Q => ∃ i, xs = [.int i] ∧ Q (.int (if i < 0 then -i else i)) H
theorem e_abs (ha : EvG l ta Γ (pV (.int m))) : EvG l (tCB rAbs (tCons ta tNil)) Γ (pV (.int (m.natAbs : Int))) :=
  e_cb (Ps := [pV (.int m)]) (fun vs H Q p k => by
    · obtain ⟨x, rfl, e1⟩ := AllP.one p
      have e1 : x = .int m := e1
      subst e1
      refine ⟨m, rfl, k _ H (Same.refl H) ?_⟩
      show V.int _ = V.int _
      congr 1
      split <;> omega) (a_cons ha a_nil)
abbrev rInt1 : List V → Hp → VK → Prop := fun xs H Q => (∃ i, xs = [.int i] ∧ Q (.int i) H) ∨ ∃ k, xs = [.bl k] ∧ Q (.int (if k then 1 else 0)) H
theorem e_int1 (ha : EvG l ta Γ (pV (.int m))) : EvG l (tCB rInt1 (tCons ta tNil)) Γ (pV (.int m)) :=
  e_cb (Ps := [pV (.int m)]) (fun vs H Q p k => by
    · obtain ⟨x, rfl, e1⟩ := AllP.one p
      have e1 : x = .int m := e1
      subst e1
      exact .inl ⟨m, rfl, k _ H (Same.refl H) rfl⟩) (a_cons ha a_nil)
/-- a known product of sizes -/
theorem e_mul {a c : Nat} (h1 : m.natAbs < 2 ^ a) (h2 : n.natAbs < 2 ^ c) (h : a + c ≤ 134217728) (ha : EvG l ta Γ (pV (.int m))) (hb : EvG l tb Γ (pV (.int n))) : EvG l (tOp (rI CMulX fun i j => .int (i * j)) ta tb) Γ (pV (.int (m * n))) :=
  e_I (mulx_ok h1 h2 h) ha hb
theorem e_div (h1 : m.natAbs < 2 ^ 13500) (h2 : 0 < n) (ha : EvG l ta Γ (pV (.int m))) (hb : EvG l tb Γ (pV (.int n))) : EvG l (tOp (rI CDivB fun i j => .int (i / j)) ta tb) Γ (pV (.int (m / n))) :=
  e_I ⟨h2, h1⟩ ha hb
end
section
variable {l : Option Addr} {H0 : Hp} {D : Ends} {K : PySem.W.Frag} {Γ Δ Γ1 Γ2 : Ga} {P P0 P1 : Pd} {te : TE} {tb t : TS} {i : Nat}
theorem r_setN (h : EvG l te Γ P) (q : ∀ σ H, Up l H0 H → Fits l (pt Γ i (some P)) σ H → D.nx σ H) : Run l H0 (tAsg te (gName i)) D Γ := fun σ H u f =>
  h σ H _ f fun v H1 u1 bx => q _ H1 (u.trans u1) ((f.up u1).put bx)
theorem r_forT2 [mm : MoL l [P0, P1]] (hs : EvG l te Γ (pT K [P0, P1])) (s0 : ∀ H1, TurnF l H1 tb { D with nx := t D } (t D) (pt Γ i (some P0)) Γ1) (s1 : ∀ H1, TurnF l H1 tb { D with nx := t D } (t D) (pt Γ1 i (some P1)) Γ2)
    (after : Run l H0 t D Γ2) : Run l H0 (tSeq (tFor (iTup K te) (gName i) tb) t) D Γ := by
  refine r_forT (Ps := [P0, P1]) (fun k => match k with | 0 => Γ | 1 => Γ1 | _ => Γ2) hs (fun H1 _ k P hP => ?_) after
  match k, hP with
  | 0, hP =>
    cases hP
    exact s0 H1
  | 1, hP =>
    cases hP
    exact s1 H1
  | k + 2, hP => simp at hP
theorem r_if0 {a d : TS} {tt : TT} {b : Bool} (h : EvT l tt Γ b) (h1 : b = true → Run l H0 a D Γ) (h2 : b = false → Run l H0 d D Γ) : Run l H0 (tIfS tt a d) D Γ := fun σ H u f =>
  h σ H _ f fun H1 u1 => by
    cases b with
    | true =>
      rw [if_pos rfl]
      exact h1 rfl σ H1 (u.trans u1) (f.up u1)
    | false =>
      rw [if_neg Bool.false_ne_true]
      exact h2 rfl σ H1 (u.trans u1) (f.up u1)
/-- a test that never holds ahead of a raise; the def's end -/
theorem r_ok {a : TS} {tt : TT} {Q : VK} (h : EvT none tt Γ false) (k : ∀ v H', Same H0 H' → pV .non v H' → Q v H') : Run none H0 (tIfS tt a tNext) { nx := fun _ H' => Q .non H', rt := Q } Γ :=
  r_if0 h (fun z => by cases z) fun _ σ H u f => k _ _ u rfl
end
section
variable {l : Option Addr} {Γ : Ga} {K : PySem.W.Frag} {P P0 P1 P2 P3 P4 : Pd} {te ta tb : TE} {x : V} {xs : List V}
theorem cut13 {v0 v1 v2 : V} : cutV [v0, v1, v2] (some 1) none = [v1, v2] := rfl
theorem e_sl1 [MoL l [P1, P2]] (h : EvG l te Γ (pT K [P0, P1, P2])) : EvG l (tSl (rSlT K) te (tPart (tC (.int 1))) tNoPart) Γ (pT K [P1, P2]) := fun σ H Q f q =>
  h σ H _ f fun v H1 u1 b1 => by
    obtain ⟨a, vs, e, s, p⟩ := Box.now u1.lo b1
    obtain ⟨v0, v1, v2, rfl, p0, p1, p2⟩ := AllP.three p
    refine ⟨1, rfl, a, _, e, s, ?_, fun t nt => ?_⟩
    · intro z
      exact absurd (show (1 : Nat) = 0 from z.1) (by decide)
    · have u2 : Up l H1 (upd H1 t (.tup [v1, v2])) := Up.same u1.lo (Same.new nt)
      refine q _ _ (u1.trans u2) (box_of (P := pT K [P1, P2]) u2.lo ⟨t, [v1, v2], rfl, .inl (.inl upd_same), ?_⟩)
      exact MoL.mo [v1, v2] H1 _ u1.lo u2 ⟨p1, p2, trivial⟩
theorem AllP.five {vs : List V} {H : Hp} (h : AllP [P0, P1, P2, P3, P4] vs H) : ∃ a b c d e, vs = [a, b, c, d, e] ∧ P0 a H ∧ P1 b H ∧ P2 c H ∧ P3 d H ∧ P4 e H := by
  cases vs with
  | nil => exact h.elim
  | cons v r =>
    obtain ⟨p, h⟩ := h
    cases r with
    | nil => exact h.elim
    | cons w r =>
      obtain ⟨q, h⟩ := h
      obtain ⟨x, y, z, e, q1, q2, q3⟩ := AllP.three h
      exact ⟨v, w, x, y, z, by rw [e], p, q, q1, q2, q3⟩
theorem e_sl3 [MoL l [P0, P1, P2]] (h : EvG l te Γ (pT K [P0, P1, P2, P3, P4])) : EvG l (tSl (rSlT K) te tNoPart (tPart (tC (.int 3)))) Γ (pT K [P0, P1, P2]) := fun σ H Q f q =>
  h σ H _ f fun v H1 u1 b1 => by
    obtain ⟨a, vs, e, s, p⟩ := Box.now u1.lo b1
    obtain ⟨v0, v1, v2, v3, v4, rfl, p0, p1, p2, _⟩ := AllP.five p
    refine ⟨3, rfl, a, _, e, s, ?_, fun t nt => ?_⟩
    · intro z
      exact absurd (show (3 : Nat) = 5 from z.2) (by decide)
    · have u2 : Up l H1 (upd H1 t (.tup [v0, v1, v2])) := Up.same u1.lo (Same.new nt)
      refine q _ _ (u1.trans u2) (box_of (P := pT K [P0, P1, P2]) u2.lo ⟨t, [v0, v1, v2], rfl, .inl (.inl upd_same), ?_⟩)
      exact MoL.mo [v0, v1, v2] H1 _ u1.lo u2 ⟨p0, p1, p2, trivial⟩
theorem vals_of {H : Hp} : ∀ {xs vs : List V}, AllP (xs.map pV) vs H → vs = xs
  | [], [], _ => rfl
  | [], _ :: _, h => h.elim
  | _ :: _, [], h => h.elim
  | x :: xs, v :: vs, h => by
    have e : v = x := h.1
    rw [e, vals_of h.2]
/-- x in a tuple of flat things -/
theorem e_inT {Ps : List Pd} (eP : Ps = xs.map pV) (hx : flatV x = true) (hf : xs.all flatV = true) (ha : EvG l ta Γ (pV x)) (hb : EvG l tb Γ (pT K Ps)) : EvG l (tOp (rIn K false) ta tb) Γ (pV (.bl (inV x xs))) := by
  subst eP
  exact e_op (fun u w H Q hu hw k => by
    have e : u = x := hu
    obtain ⟨a, vs, e2, s, p⟩ := hw
    have := vals_of p
    subst e e2 this
    exact ⟨a, _, rfl, .inr s, hx, hf, k _ H (Same.refl H) rfl⟩) ha hb
/-- x not in a list of flat things, made on the way -/
theorem e_ninL {tr : TA} {Ps : List Pd} (eP : Ps = xs.map pV) (hx : flatV x = true) (hf : xs.all flatV = true) (small : xs.length ≤ 1000) (ha : EvG l ta Γ (pV x)) (hb : EvA l tr Γ Ps) : EvG l (tOp (rIn K true) ta (tLst tr)) Γ (pV (.bl (!inV x xs))) := fun σ H Q f q =>
  ha σ H _ f fun u H1 u1 b1 => hb σ H1 _ (f.up u1) fun vs H2 u2 b2 => by
    subst eP
    have e : u = x := Box.now u1.lo b1
    have := vals_of (BoxL.now u2.lo b2)
    subst e this
    refine ⟨Nat.le_of_lt (small1000 small), fun p np => ?_⟩
    have u3 : Up l H2 (upd H2 p (.lst vs)) := Up.same u2.lo (Same.new np)
    exact ⟨p, vs, rfl, .inl (.inl (.inl upd_same)), hx, hf, q _ _ ((u1.trans u2).trans u3) (box_of u3.lo rfl)⟩
end
section
variable {l : Option Addr} {H0 : Hp} {D : Ends} {Γ : Ga} {te : TE} {t : TS} {b c : Bool}
theorem e_t (h : EvG l te Γ (pV (.bl b))) (e : b = c) : EvT l (tB te) Γ c := t_B (e_bl h e)
/-- the ends of a statement within a block -/
theorem r_next0 (r : Run l H0 t D Γ) : Run l H0 tNext { D with nx := t D } Γ := fun σ H u f => r σ H u f
end
section
variable {l : Option Addr} {H0 : Hp} {D : Ends} {Γ : Ga} {t : TS} {i m : Nat} {q : Rat} {K : PySem.W.Frag} {Ps : List Pd}
/-- what a slot's fraction says of its size -/
theorem r_getQ (h : gt Γ i = some (pQ K m q)) (r : Bd m q → Run l H0 t D Γ) : Run l H0 t D Γ := fun σ H u f => by
  obtain ⟨v, _, b⟩ := FitL.get f.2 h
  exact r (Box.now f.1 b).1 σ H u f
theorem r_getT3 {P P' : Pd} (h : gt Γ i = some (pT K [pQ K m q, P, P'])) (r : Bd m q → Run l H0 t D Γ) : Run l H0 t D Γ := fun σ H u f => by
  obtain ⟨v, _, b⟩ := FitL.get f.2 h
  obtain ⟨a, vs, e, s, p⟩ := Box.now f.1 b
  obtain ⟨x, y, z, _, p1, _⟩ := AllP.three p
  exact r p1.1 σ H u f
end
end K30

/-! text: KArith -/
set_option Elab.async false
set_option linter.all false
set_option maxRecDepth 100000
set_option maxHeartbeats 4000000
namespace K30
open PySem PySem.Spec PyProof.Rows L2 K30M
section
variable {P : Program} {w : World} {K : PySem.W.Frag} {mg : Str → Option Value} {base : Heap}
/-! is_whole -/
def sp_is_whole (K : PySem.W.Frag) : Sp := fun vs H Q _ => ∃ (i : Int), (True) ∧ AllP [pV (.int i)] vs H ∧ ∀ v H', Same H H' → (pV (.bl true) : Pd) v H' → Q v H'
theorem len_is_whole {vs : List V} {H : Hp} {Q : VK} {E : XK} (h : sp_is_whole K vs H Q E) : vs.length = 1 := by
  obtain ⟨_, _, pp, _⟩ := h
  exact AllP.len pp
theorem e_is_whole {l : Option Addr} {Γ : Ga} {t0 : TE} {i : Int}  (h0 : EvG l t0 Γ (pV (.int i))) : EvG l (tCall (sp_is_whole K) [] E0 (tCons t0 tNil)) Γ (pV (.bl true)) := e_call (fun _ _ _ pp kk => ⟨i, trivial, pp, kk⟩) (a_cons h0 a_nil)
theorem sc_is_whole : FnScope ["value"] ["value"] (defScope s_is_whole) := ⟨rfl, rfl, rfl, by decide +kernel, rfl, by decide +kernel, by decide +kernel⟩
theorem ok_is_whole (T : Txt K mg) : Fn P w K mg base 1 "is_whole" ["value"] (sp_is_whole K) := by
  refine fn_mk T 0 0 rfl rfl sc_is_whole (fun vs H Q E h => len_is_whole h) (fun _ _ _ _ _ _ us hl => match us, hl with | [_], _ => rfl) (fun f cdv A outer s H vs Q E hr h => ?_)
  obtain ⟨i, hc, hp, k⟩ := h
  refine ⟨_, (pss_one (ps_ret (pe_and (pe_callB call_isi rfl (T.free 104 rfl) (by decide +kernel) (pa_cons (pv 0) (pa_cons (pe_bltn (v := .ty "int") rfl (T.free 103 rfl) (by decide +kernel) rfl) pa_nil))) (pe_one (pe_not (pe_callB call_isi rfl (T.free 104 rfl) (by decide +kernel) (pa_cons (pv 0) (pa_cons (pe_bltn (v := .ty "bool") rfl (T.free 101 rfl) (by decide +kernel) rfl) pa_nil)))))))), ?_⟩
  refine (?_ : Run none H _ _ ([some (pV (.int i))] : Ga)) _ H (Same.refl H) (fits0 hp trivial rfl)
  exact r_done (e_bl (e_and (b := true) (e_isi ty_int (by decide +kernel) (e_var rfl)) fun _ => e_notV (e_isi ty_int (b := false) (by decide +kernel) (e_var rfl))) rfl) k
/-! are_wholes -/
def sp_are_wholes (K : PySem.W.Frag) : Sp := fun vs H Q _ => ∃ (a b : Int), (True) ∧ AllP [pT K [pV (.int a), pV (.int b)], pV (.int 2)] vs H ∧ ∀ v H', Same H H' → (pV (.bl true) : Pd) v H' → Q v H'
theorem len_are_wholes {vs : List V} {H : Hp} {Q : VK} {E : XK} (h : sp_are_wholes K vs H Q E) : vs.length = 2 := by
  obtain ⟨_, _, _, pp, _⟩ := h
  exact AllP.len pp
theorem e_are_wholes {l : Option Addr} {Γ : Ga} {t0 t1 : TE} {a b : Int}  (h0 : EvG l t0 Γ (pT K [pV (.int a), pV (.int b)])) (h1 : EvG l t1 Γ (pV (.int 2))) : EvG l (tCall (sp_are_wholes K) [] E0 (tCons t0 (tCons t1 tNil))) Γ (pV (.bl true)) := e_call (fun _ _ _ pp kk => ⟨a, b, trivial, pp, kk⟩) (a_cons h0 (a_cons h1 a_nil))
theorem sc_are_wholes : FnScope ["value", "many", "number"] ["value", "many"] (defScope s_are_wholes) := ⟨rfl, rfl, rfl, by decide +kernel, rfl, by decide +kernel, by decide +kernel⟩
theorem ok_are_wholes (T : Txt K mg) : Fn P w K mg base 2 "are_wholes" ["value", "many"] (sp_are_wholes K) := by
  refine fn_mk T 1 1 rfl rfl sc_are_wholes (fun vs H Q E h => len_are_wholes h) (fun _ _ _ _ _ _ us hl => match us, hl with | [_, _], _ => rfl) (fun f cdv A outer s H vs Q E hr h => ?_)
  obtain ⟨a, b, hc, hp, k⟩ := h
  refine ⟨_, (pss_one (ps_ret (pe_and (pe_callB call_isi rfl (T.free 104 rfl) (by decide +kernel) (pa_cons (pv 0) (pa_cons (pe_bltn (v := .ty "tuple") rfl (T.free 111 rfl) (by decide +kernel) rfl) pa_nil))) (pe_and (pe_cmpR op_eq (pe_callB call_len_seq rfl (T.free 105 rfl) (by decide +kernel) (pa_cons (pv 0) pa_nil)) (pv 1) (nomark _)) (pe_one (pe_callB (cr_all rfl) rfl (T.free 100 rfl) (by decide +kernel) (pa_cons (pe_lc (own := [("number", 2)]) (g := (gName 2)) (tt := tYes) rfl sc_are_wholes.nd  (pi_tup (pv 0)) (blkOk_by (own := [("number", 2)]) (N := ["value", "many", "number"]) (sc := defScope s_are_wholes) (by decide +kernel)) (fun _ _ _ _ _ => (pg_name (i := 2) sc_are_wholes.nd rfl (by first | exact Or.inl rfl | exact Or.inr rfl))) (fun _ _ _ _ _ => pts_nil) (fun _ _ _ _ _ => (pe_fn (ok_is_whole T) (hr.mono (by decide)) (pa_cons (pv 2) pa_nil)))) pa_nil))))))), ?_⟩
  refine (?_ : Run none H _ _ ([some (pT K [pV (.int a), pV (.int b)]), some (pV (.int 2)), none] : Ga)) _ H (Same.refl H) (fits0 hp trivial rfl)
  refine r_done (e_and (b := true) (c := true) (e_isi ty_tup (by decide +kernel) (e_var rfl)) fun _ => e_and (b := true) (c := true) (e_bl (e_eq rfl (e_lenT (e_var rfl)) (e_var rfl)) (decide_eq_true rfl)) fun _ => e_all (bs := [true, true]) rfl (e_lcT (Rs := [pV (.bl true), pV (.bl true)]) (e_var rfl) ?_)) k
  exact ⟨turn1_name (e_is_whole (K := K) (e_var rfl)), turn1_name (e_is_whole (K := K) (e_var rfl)), trivial⟩
/-! divisor_of -/
def sp_divisor_of (K : PySem.W.Frag) : Sp := fun vs H Q _ => ∃ (a b : Int), (True) ∧ AllP [pT K [pV (.int a), pV (.int b)]] vs H ∧ ∀ v H', Same H H' → (pV (.int (gcdI a b)) : Pd) v H' → Q v H'
theorem len_divisor_of {vs : List V} {H : Hp} {Q : VK} {E : XK} (h : sp_divisor_of K vs H Q E) : vs.length = 1 := by
  obtain ⟨_, _, _, pp, _⟩ := h
  exact AllP.len pp
theorem e_divisor_of {l : Option Addr} {Γ : Ga} {t0 : TE} {a b : Int}  (h0 : EvG l t0 Γ (pT K [pV (.int a), pV (.int b)])) : EvG l (tCall (sp_divisor_of K) [] E0 (tCons t0 tNil)) Γ (pV (.int (gcdI a b))) := e_call (fun _ _ _ pp kk => ⟨a, b, trivial, pp, kk⟩) (a_cons h0 a_nil)
theorem sc_divisor_of : FnScope ["numbers", "found", "number"] ["numbers"] (defScope s_divisor_of) := ⟨rfl, rfl, rfl, by decide +kernel, rfl, by decide +kernel, by decide +kernel⟩
theorem ok_divisor_of (T : Txt K mg) : Fn P w K mg base 1 "divisor_of" ["numbers"] (sp_divisor_of K) := by
  refine fn_mk T 2 2 rfl rfl sc_divisor_of (fun vs H Q E h => len_divisor_of h) (fun _ _ _ _ _ _ us hl => match us, hl with | [_], _ => rfl) (fun f cdv A outer s H vs Q E hr h => ?_)
  obtain ⟨a, b, hc, hp, k⟩ := h
  refine ⟨_, (pss_cons (ps_set (i := 1) sc_divisor_of.nd rfl (Or.inl rfl) pe_int)
      (pss_cons (ps_for PassesOwn.never rfl (pi_tup (pv 0)) (pg_name (i := 2) sc_divisor_of.nd rfl (by first | exact Or.inl rfl | exact Or.inr rfl)) (pss_one (ps_set (i := 1) sc_divisor_of.nd rfl (Or.inl rfl) (pe_callBfun cr_gcd rfl T.gcd (pa_cons (pv 1) (pa_cons (pv 2) pa_nil))))))
      (pss_one (ps_ret (pv 1))))), ?_⟩
  refine (?_ : Run none H _ _ ([some (pT K [pV (.int a), pV (.int b)]), none, none] : Ga)) _ H (Same.refl H) (fits0 hp trivial rfl)
  refine r_set e_c (r_forT2 (Γ1 := [some (pT K [pV (.int a), pV (.int b)]), some (pV (.int (gcdI 0 a))), none]) (Γ2 := [some (pT K [pV (.int a), pV (.int b)]), some (pV (.int (gcdI (gcdI 0 a) b))), none]) (e_var rfl) (fun H1 N hN => ?_) (fun H1 N hN => ?_) ?_)
  · exact r_setN (e_gcd (e_var rfl) (e_var rfl)) fun σ H' u f => hN σ H' u (f.weak (by exact ⟨rfl, rfl, trivial⟩))
  · exact r_setN (e_gcd (e_var rfl) (e_var rfl)) fun σ H' u f => hN σ H' u (f.weak (by exact ⟨rfl, rfl, trivial⟩))
  · refine r_done (e_int (e_var rfl) ?_) k
    unfold gcdI
    rw [Int.natAbs_zero, Nat.gcd_zero_left, Int.natAbs_natCast]
theorem gcdI_cases {a b : Int} (h : ¬ 1 < gcdI a b) : a / gcdI a b = a ∧ b / gcdI a b = b := by
  have h0 : 0 ≤ gcdI a b := by
    unfold gcdI
    omega
  by_cases z : a = 0 ∧ b = 0
  · rw [z.1, z.2]
    exact ⟨rfl, rfl⟩
  · have := gcdI_ne z
    have e : gcdI a b = 1 := by omega
    rw [e]
    exact ⟨Int.ediv_one a, Int.ediv_one b⟩
/-! reduced -/
def sp_reduced (K : PySem.W.Frag) : Sp := fun vs H Q _ => ∃ (a b : Int), (a.natAbs < 2 ^ 13500 ∧ b.natAbs < 2 ^ 13500) ∧ AllP [pT K [pV (.int a), pV (.int b)]] vs H ∧ ∀ v H', Same H H' → (pT K [pV (.int (a / gcdI a b)), pV (.int (b / gcdI a b))] : Pd) v H' → Q v H'
theorem len_reduced {vs : List V} {H : Hp} {Q : VK} {E : XK} (h : sp_reduced K vs H Q E) : vs.length = 1 := by
  obtain ⟨_, _, _, pp, _⟩ := h
  exact AllP.len pp
theorem e_reduced {l : Option Addr} {Γ : Ga} {t0 : TE} {a b : Int}  (h0 : EvG l t0 Γ (pT K [pV (.int a), pV (.int b)])) (hc : a.natAbs < 2 ^ 13500 ∧ b.natAbs < 2 ^ 13500) : EvG l (tCall (sp_reduced K) [] E0 (tCons t0 tNil)) Γ (pT K [pV (.int (a / gcdI a b)), pV (.int (b / gcdI a b))]) := e_call (fun _ _ _ pp kk => ⟨a, b, hc, pp, kk⟩) (a_cons h0 a_nil)
theorem sc_reduced : FnScope ["numbers", "part", "number"] ["numbers"] (defScope s_reduced) := ⟨rfl, rfl, rfl, by decide +kernel, rfl, by decide +kernel, by decide +kernel⟩
theorem ok_reduced (T : Txt K mg) : Fn P w K mg base 2 "reduced" ["numbers"] (sp_reduced K) := by
  refine fn_mk T 3 3 rfl rfl sc_reduced (fun vs H Q E h => len_reduced h) (fun _ _ _ _ _ _ us hl => match us, hl with | [_], _ => rfl) (fun f cdv A outer s H vs Q E hr h => ?_)
  obtain ⟨a, b, hc, hp, k⟩ := h
  refine ⟨_, (pss_cons (ps_set (i := 1) sc_reduced.nd rfl (Or.inr rfl) (pe_fn (ok_divisor_of T) (hr.mono (by decide)) (pa_cons (pv 0) pa_nil)))
      (pss_one (ps_ret (pe_ifExp (pt_cmpR op_gt (pv 1) pe_int (nomark _)) (pe_callTy call_tuple_of rfl (T.free 111 rfl) (by decide +kernel) (pa_cons (pe_lc (own := [("number", 2)]) (g := (gName 2)) (tt := tYes) rfl sc_reduced.nd  (pi_tup (pv 0)) (blkOk_by (own := [("number", 2)]) (N := ["numbers", "part", "number"]) (sc := defScope s_reduced) (by decide +kernel)) (fun _ _ _ _ _ => (pg_name (i := 2) sc_reduced.nd rfl (by first | exact Or.inl rfl | exact Or.inr rfl))) (fun _ _ _ _ _ => pts_nil) (fun _ _ _ _ _ => (pe_op op_fdivB (pv 2) (pv 1)))) pa_nil)) (pe_callTy call_tuple_of rfl (T.free 111 rfl) (by decide +kernel) (pa_cons (pv 0) pa_nil)))))), ?_⟩
  refine (?_ : Run none H _ _ ([some (pT K [pV (.int a), pV (.int b)]), none, none] : Ga)) _ H (Same.refl H) (fits0 hp trivial rfl)
  refine r_set (e_divisor_of (e_var rfl)) (r_done (e_if (t_of (e_I0 (e_var rfl) e_c)) (fun hb => e_tupL (e_lcT (e_var rfl) ?_)) (fun hb => e_to (e_tupT (e_var rfl)) ?_)) k)
  · have hp := of_decide_eq_true hb
    exact ⟨turn1_name (e_div hc.1 (by omega) (e_var rfl) (e_var rfl)), turn1_name (e_div hc.2 (by omega) (e_var rfl) (e_var rfl)), trivial⟩
  · have hp := of_decide_eq_false hb
    obtain ⟨e1, e2⟩ := gcdI_cases hp
    rw [e1, e2]
/-! is_reduced -/
def sp_is_reduced (K : PySem.W.Frag) : Sp := fun vs H Q _ => ∃ (a b : Int), (gcdI a b = 1) ∧ AllP [pT K [pV (.int a), pV (.int b)]] vs H ∧ ∀ v H', Same H H' → (pV (.bl true) : Pd) v H' → Q v H'
theorem len_is_reduced {vs : List V} {H : Hp} {Q : VK} {E : XK} (h : sp_is_reduced K vs H Q E) : vs.length = 1 := by
  obtain ⟨_, _, _, pp, _⟩ := h
  exact AllP.len pp
theorem e_is_reduced {l : Option Addr} {Γ : Ga} {t0 : TE} {a b : Int}  (h0 : EvG l t0 Γ (pT K [pV (.int a), pV (.int b)])) (hc : gcdI a b = 1) : EvG l (tCall (sp_is_reduced K) [] E0 (tCons t0 tNil)) Γ (pV (.bl true)) := e_call (fun _ _ _ pp kk => ⟨a, b, hc, pp, kk⟩) (a_cons h0 a_nil)
theorem sc_is_reduced : FnScope ["numbers"] ["numbers"] (defScope s_is_reduced) := ⟨rfl, rfl, rfl, by decide +kernel, rfl, by decide +kernel, by decide +kernel⟩
theorem ok_is_reduced (T : Txt K mg) : Fn P w K mg base 2 "is_reduced" ["numbers"] (sp_is_reduced K) := by
  refine fn_mk T 4 4 rfl rfl sc_is_reduced (fun vs H Q E h => len_is_reduced h) (fun _ _ _ _ _ _ us hl => match us, hl with | [_], _ => rfl) (fun f cdv A outer s H vs Q E hr h => ?_)
  obtain ⟨a, b, hc, hp, k⟩ := h
  refine ⟨_, (pss_one (ps_ret (pe_cmpR op_eq (pe_fn (ok_divisor_of T) (hr.mono (by decide)) (pa_cons (pv 0) pa_nil)) pe_int (nomark _)))), ?_⟩
  refine (?_ : Run none H _ _ ([some (pT K [pV (.int a), pV (.int b)])] : Ga)) _ H (Same.refl H) (fits0 hp trivial rfl)
  exact r_done (e_bl (e_eq rfl (e_divisor_of (e_var rfl)) e_c) (decide_eq_true (by rw [hc]))) k
/-! sign_of -/
def sp_sign_of (K : PySem.W.Frag) : Sp := fun vs H Q _ => ∃ (i : Int), (True) ∧ AllP [pV (.int i)] vs H ∧ ∀ v H', Same H H' → (pV (.int i.sign) : Pd) v H' → Q v H'
theorem len_sign_of {vs : List V} {H : Hp} {Q : VK} {E : XK} (h : sp_sign_of K vs H Q E) : vs.length = 1 := by
  obtain ⟨_, _, pp, _⟩ := h
  exact AllP.len pp
theorem e_sign_of {l : Option Addr} {Γ : Ga} {t0 : TE} {i : Int}  (h0 : EvG l t0 Γ (pV (.int i))) : EvG l (tCall (sp_sign_of K) [] E0 (tCons t0 tNil)) Γ (pV (.int i.sign)) := e_call (fun _ _ _ pp kk => ⟨i, trivial, pp, kk⟩) (a_cons h0 a_nil)
theorem sc_sign_of : FnScope ["number"] ["number"] (defScope s_sign_of) := ⟨rfl, rfl, rfl, by decide +kernel, rfl, by decide +kernel, by decide +kernel⟩
theorem ok_sign_of (T : Txt K mg) : Fn P w K mg base 1 "sign_of" ["number"] (sp_sign_of K) := by
  refine fn_mk T 5 5 rfl rfl sc_sign_of (fun vs H Q E h => len_sign_of h) (fun _ _ _ _ _ _ us hl => match us, hl with | [_], _ => rfl) (fun f cdv A outer s H vs Q E hr h => ?_)
  obtain ⟨i, hc, hp, k⟩ := h
  refine ⟨_, (pss_one (ps_ret (pe_ifExp (pt_cmpR op_gt (pv 0) pe_int (nomark _)) pe_int (pe_ifExp (pt_cmpR op_lt (pv 0) pe_int (nomark _)) (pe_un un_neg pe_int) pe_int)))), ?_⟩
  refine (?_ : Run none H _ _ ([some (pV (.int i))] : Ga)) _ H (Same.refl H) (fits0 hp trivial rfl)
  refine r_done (e_if (t_of (e_I0 (e_var rfl) e_c)) (fun hb => e_int e_c ?_) (fun hb => e_if (t_of (e_I0 (e_var rfl) e_c)) (fun hb2 => e_int (e_neg e_c) ?_) (fun hb2 => e_int e_c ?_))) k
  · have := of_decide_eq_true hb
    exact (Int.sign_eq_one_of_pos this).symm
  · have := of_decide_eq_true hb2
    exact (Int.sign_eq_neg_one_of_neg this).symm
  · have h1 := of_decide_eq_false hb
    have h2 := of_decide_eq_false hb2
    have : i = 0 := by omega
    rw [this]
    rfl
theorem q_red (q : Rat) : gcdI q.num (q.den : Int) = 1 := by
  have := q.reduced
  unfold gcdI
  rw [Int.natAbs_natCast]
  exact congrArg Nat.cast this
/-! is_ratio -/
def sp_is_ratio (K : PySem.W.Frag) : Sp := fun vs H Q _ => ∃ (q : Rat) (m : Nat), (True) ∧ AllP [pQ K m q] vs H ∧ ∀ v H', Same H H' → (pV (.bl true) : Pd) v H' → Q v H'
theorem len_is_ratio {vs : List V} {H : Hp} {Q : VK} {E : XK} (h : sp_is_ratio K vs H Q E) : vs.length = 1 := by
  obtain ⟨_, _, _, pp, _⟩ := h
  exact AllP.len pp
theorem e_is_ratio {l : Option Addr} {Γ : Ga} {t0 : TE} {q : Rat} {m : Nat}  (h0 : EvG l t0 Γ (pQ K m q)) : EvG l (tCall (sp_is_ratio K) [] E0 (tCons t0 tNil)) Γ (pV (.bl true)) := e_call (fun _ _ _ pp kk => ⟨q, m, trivial, pp, kk⟩) (a_cons h0 a_nil)
theorem sc_is_ratio : FnScope ["value"] ["value"] (defScope s_is_ratio) := ⟨rfl, rfl, rfl, by decide +kernel, rfl, by decide +kernel, by decide +kernel⟩
theorem ok_is_ratio (T : Txt K mg) : Fn P w K mg base 3 "is_ratio" ["value"] (sp_is_ratio K) := by
  refine fn_mk T 6 6 rfl rfl sc_is_ratio (fun vs H Q E h => len_is_ratio h) (fun _ _ _ _ _ _ us hl => match us, hl with | [_], _ => rfl) (fun f cdv A outer s H vs Q E hr h => ?_)
  obtain ⟨q, m, hc, hp, k⟩ := h
  refine ⟨_, (pss_one (ps_ret (pe_and (pe_fn (ok_are_wholes T) (hr.mono (by decide)) (pa_cons (pv 0) (pa_cons pe_int pa_nil))) (pe_and (pe_cmpR op_gt (pe_ix ix_tup (pv 0) pe_int (fun _ _ => rfl)) pe_int (nomark _)) (pe_one (pe_fn (ok_is_reduced T) (hr.mono (by decide)) (pa_cons (pv 0) pa_nil))))))), ?_⟩
  refine (?_ : Run none H _ _ ([some (pQ K m q)] : Ga)) _ H (Same.refl H) (fits0 hp trivial rfl)
  exact r_done (e_and (b := true) (c := true) (e_are_wholes (q_f (e_var rfl)) e_c) fun _ => e_and (b := true) (c := true) (e_bl (e_I0 (e_den (e_var rfl)) e_c) (decide_eq_true (den_pos q))) fun _ => e_is_reduced (q_f (e_var rfl)) (q_red q)) k
/-! ratio -/
def sp_ratio (K : PySem.W.Frag) : Sp := fun vs H Q _ => ∃ (n u : Int) (m : Nat), (0 < u ∧ n.natAbs < 2 ^ m ∧ u.natAbs < 2 ^ m ∧ m ≤ 13500) ∧ AllP [pV (.int n), pV (.int u)] vs H ∧ ∀ v H', Same H H' → (pQ K m ((n : Rat) / (u : Rat)) : Pd) v H' → Q v H'
theorem len_ratio {vs : List V} {H : Hp} {Q : VK} {E : XK} (h : sp_ratio K vs H Q E) : vs.length = 2 := by
  obtain ⟨_, _, _, _, pp, _⟩ := h
  exact AllP.len pp
theorem e_ratio {l : Option Addr} {Γ : Ga} {t0 t1 : TE} {n u : Int} {m : Nat}  (h0 : EvG l t0 Γ (pV (.int n))) (h1 : EvG l t1 Γ (pV (.int u))) (hc : 0 < u ∧ n.natAbs < 2 ^ m ∧ u.natAbs < 2 ^ m ∧ m ≤ 13500) : EvG l (tCall (sp_ratio K) [] E0 (tCons t0 (tCons t1 tNil))) Γ (pQ K m ((n : Rat) / (u : Rat))) := e_call (fun _ _ _ pp kk => ⟨n, u, m, hc, pp, kk⟩) (a_cons h0 (a_cons h1 a_nil))
theorem sc_ratio : FnScope ["number", "under", "part"] ["number", "under"] (defScope s_ratio) := ⟨rfl, rfl, rfl, by decide +kernel, rfl, by decide +kernel, by decide +kernel⟩
theorem ok_ratio (T : Txt K mg) : Fn P w K mg base 2 "ratio" ["number", "under"] (sp_ratio K) := by
  refine fn_mk T 7 7 rfl rfl sc_ratio (fun vs H Q E h => len_ratio h) (fun _ _ _ _ _ _ us hl => match us, hl with | [_, _], _ => rfl) (fun f cdv A outer s H vs Q E hr h => ?_)
  obtain ⟨n, u, m, hc, hp, k⟩ := h
  refine ⟨_, (pss_cons (ps_set (i := 2) sc_ratio.nd rfl (Or.inl rfl) (pe_fn (ok_divisor_of T) (hr.mono (by decide)) (pa_cons (pe_tup (pa_cons (pv 0) (pa_cons (pv 1) pa_nil))) pa_nil)))
      (pss_cons (ps_set (i := 2) sc_ratio.nd rfl (Or.inl rfl) (pe_ifExp (pt_cmpR op_gt (pv 1) pe_int (nomark _)) (pv 2) (pe_un un_neg (pv 2))))
      (pss_one (ps_ret (pe_tup (pa_cons (pe_op op_fdivB (pv 0) (pv 2)) (pa_cons (pe_op op_fdivB (pv 1) (pv 2)) pa_nil))))))), ?_⟩
  refine (?_ : Run none H _ _ ([some (pV (.int n)), some (pV (.int u)), none] : Ga)) _ H (Same.refl H) (fits0 hp trivial rfl)
  obtain ⟨hu, h1, h2, hm⟩ := hc
  have g := gcdI_pos (n := n) hu
  have g1 := Nat.lt_of_lt_of_le h1 (pow_le hm)
  have g2 := Nat.lt_of_lt_of_le h2 (pow_le hm)
  obtain ⟨d1, d2⟩ := div_nd n u hu
  refine r_set (e_divisor_of (e_tup (a_cons (e_var rfl) (a_cons (e_var rfl) a_nil)))) (r_set (e_ifT (t_is (t_of (e_I0 (e_var rfl) e_c)) (decide_eq_true hu)) (e_var rfl))
    (r_done (f_q (e_to (e_tup (K := K) (a_cons (e_div g1 g (e_var rfl) (e_var rfl)) (a_cons (e_div g2 g (e_var rfl) (e_var rfl)) a_nil))) ?_) (bd_div hu h1 h2)) k))
  unfold pF
  rw [d1, d2]
/-! ratio_sum -/
def sp_ratio_sum (K : PySem.W.Frag) : Sp := fun vs H Q _ => ∃ (x y : Rat) (m n : Nat), (m + n + 1 ≤ 13500) ∧ AllP [pQ K m x, pQ K n y] vs H ∧ ∀ v H', Same H H' → (pQ K (m + n + 1) (x + y) : Pd) v H' → Q v H'
theorem len_ratio_sum {vs : List V} {H : Hp} {Q : VK} {E : XK} (h : sp_ratio_sum K vs H Q E) : vs.length = 2 := by
  obtain ⟨_, _, _, _, _, pp, _⟩ := h
  exact AllP.len pp
theorem e_ratio_sum {l : Option Addr} {Γ : Ga} {t0 t1 : TE} {x y : Rat} {m n : Nat}  (h0 : EvG l t0 Γ (pQ K m x)) (h1 : EvG l t1 Γ (pQ K n y)) (hc : m + n + 1 ≤ 13500) : EvG l (tCall (sp_ratio_sum K) [] E0 (tCons t0 (tCons t1 tNil))) Γ (pQ K (m + n + 1) (x + y)) := e_call (fun _ _ _ pp kk => ⟨x, y, m, n, hc, pp, kk⟩) (a_cons h0 (a_cons h1 a_nil))
theorem sc_ratio_sum : FnScope ["one", "two"] ["one", "two"] (defScope s_ratio_sum) := ⟨rfl, rfl, rfl, by decide +kernel, rfl, by decide +kernel, by decide +kernel⟩
theorem ok_ratio_sum (T : Txt K mg) : Fn P w K mg base 3 "ratio_sum" ["one", "two"] (sp_ratio_sum K) := by
  refine fn_mk T 8 8 rfl rfl sc_ratio_sum (fun vs H Q E h => len_ratio_sum h) (fun _ _ _ _ _ _ us hl => match us, hl with | [_, _], _ => rfl) (fun f cdv A outer s H vs Q E hr h => ?_)
  obtain ⟨x, y, m, n, hc, hp, k⟩ := h
  obtain ⟨hx, hy⟩ : Bd m x ∧ Bd n y := by
    obtain ⟨_, _, _, q1, q2⟩ := AllP.two hp
    exact ⟨q1.1, q2.1⟩
  refine ⟨_, (pss_one (ps_ret (pe_fn (ok_ratio T) (hr.mono (by decide)) (pa_cons (pe_op op_add (pe_op op_mulX (pe_ix ix_tup (pv 0) pe_int (fun _ _ => rfl)) (pe_ix ix_tup (pv 1) pe_int (fun _ _ => rfl))) (pe_op op_mulX (pe_ix ix_tup (pv 1) pe_int (fun _ _ => rfl)) (pe_ix ix_tup (pv 0) pe_int (fun _ _ => rfl)))) (pa_cons (pe_op op_mulX (pe_ix ix_tup (pv 0) pe_int (fun _ _ => rfl)) (pe_ix ix_tup (pv 1) pe_int (fun _ _ => rfl))) pa_nil))))), ?_⟩
  refine (?_ : Run none H _ _ ([some (pQ K m x), some (pQ K n y)] : Ga)) _ H (Same.refl H) (fits0 hp trivial rfl)
  obtain ⟨b1, b2, _⟩ := bd_sum hx hy
  rw [sum_as x y] at k
  exact r_done (e_ratio (e_I0 (e_mul hx.1 (denI hy.2) (by omega) (e_num (e_var rfl)) (e_den (e_var rfl))) (e_mul hy.1 (denI hx.2) (by omega) (e_num (e_var rfl)) (e_den (e_var rfl)))) (e_mul (denI hx.2) (denI hy.2) (by omega) (e_den (e_var rfl)) (e_den (e_var rfl))) ⟨Int.mul_pos (den_pos x) (den_pos y), b1, b2, hc⟩) k
/-! ratio_less -/
def sp_ratio_less (K : PySem.W.Frag) : Sp := fun vs H Q _ => ∃ (x y : Rat) (m n : Nat), (m + n + 1 ≤ 13500) ∧ AllP [pQ K m x, pQ K n y] vs H ∧ ∀ v H', Same H H' → (pQ K (m + n + 1) (x - y) : Pd) v H' → Q v H'
theorem len_ratio_less {vs : List V} {H : Hp} {Q : VK} {E : XK} (h : sp_ratio_less K vs H Q E) : vs.length = 2 := by
  obtain ⟨_, _, _, _, _, pp, _⟩ := h
  exact AllP.len pp
theorem e_ratio_less {l : Option Addr} {Γ : Ga} {t0 t1 : TE} {x y : Rat} {m n : Nat}  (h0 : EvG l t0 Γ (pQ K m x)) (h1 : EvG l t1 Γ (pQ K n y)) (hc : m + n + 1 ≤ 13500) : EvG l (tCall (sp_ratio_less K) [] E0 (tCons t0 (tCons t1 tNil))) Γ (pQ K (m + n + 1) (x - y)) := e_call (fun _ _ _ pp kk => ⟨x, y, m, n, hc, pp, kk⟩) (a_cons h0 (a_cons h1 a_nil))
theorem sc_ratio_less : FnScope ["one", "two"] ["one", "two"] (defScope s_ratio_less) := ⟨rfl, rfl, rfl, by decide +kernel, rfl, by decide +kernel, by decide +kernel⟩
theorem ok_ratio_less (T : Txt K mg) : Fn P w K mg base 3 "ratio_less" ["one", "two"] (sp_ratio_less K) := by
  refine fn_mk T 9 9 rfl rfl sc_ratio_less (fun vs H Q E h => len_ratio_less h) (fun _ _ _ _ _ _ us hl => match us, hl with | [_, _], _ => rfl) (fun f cdv A outer s H vs Q E hr h => ?_)
  obtain ⟨x, y, m, n, hc, hp, k⟩ := h
  obtain ⟨hx, hy⟩ : Bd m x ∧ Bd n y := by
    obtain ⟨_, _, _, q1, q2⟩ := AllP.two hp
    exact ⟨q1.1, q2.1⟩
  refine ⟨_, (pss_one (ps_ret (pe_fn (ok_ratio T) (hr.mono (by decide)) (pa_cons (pe_op op_sub (pe_op op_mulX (pe_ix ix_tup (pv 0) pe_int (fun _ _ => rfl)) (pe_ix ix_tup (pv 1) pe_int (fun _ _ => rfl))) (pe_op op_mulX (pe_ix ix_tup (pv 1) pe_int (fun _ _ => rfl)) (pe_ix ix_tup (pv 0) pe_int (fun _ _ => rfl)))) (pa_cons (pe_op op_mulX (pe_ix ix_tup (pv 0) pe_int (fun _ _ => rfl)) (pe_ix ix_tup (pv 1) pe_int (fun _ _ => rfl))) pa_nil))))), ?_⟩
  refine (?_ : Run none H _ _ ([some (pQ K m x), some (pQ K n y)] : Ga)) _ H (Same.refl H) (fits0 hp trivial rfl)
  obtain ⟨b1, b2, _⟩ := bd_sub hx hy
  rw [sub_as x y] at k
  exact r_done (e_ratio (e_I0 (e_mul hx.1 (denI hy.2) (by omega) (e_num (e_var rfl)) (e_den (e_var rfl))) (e_mul hy.1 (denI hx.2) (by omega) (e_num (e_var rfl)) (e_den (e_var rfl)))) (e_mul (denI hx.2) (denI hy.2) (by omega) (e_den (e_var rfl)) (e_den (e_var rfl))) ⟨Int.mul_pos (den_pos x) (den_pos y), b1, b2, hc⟩) k
/-! ratio_product -/
def sp_ratio_product (K : PySem.W.Frag) : Sp := fun vs H Q _ => ∃ (x y : Rat) (m n : Nat), (m + n ≤ 13500) ∧ AllP [pQ K m x, pQ K n y] vs H ∧ ∀ v H', Same H H' → (pQ K (m + n) (x * y) : Pd) v H' → Q v H'
theorem len_ratio_product {vs : List V} {H : Hp} {Q : VK} {E : XK} (h : sp_ratio_product K vs H Q E) : vs.length = 2 := by
  obtain ⟨_, _, _, _, _, pp, _⟩ := h
  exact AllP.len pp
theorem e_ratio_product {l : Option Addr} {Γ : Ga} {t0 t1 : TE} {x y : Rat} {m n : Nat}  (h0 : EvG l t0 Γ (pQ K m x)) (h1 : EvG l t1 Γ (pQ K n y)) (hc : m + n ≤ 13500) : EvG l (tCall (sp_ratio_product K) [] E0 (tCons t0 (tCons t1 tNil))) Γ (pQ K (m + n) (x * y)) := e_call (fun _ _ _ pp kk => ⟨x, y, m, n, hc, pp, kk⟩) (a_cons h0 (a_cons h1 a_nil))
theorem sc_ratio_product : FnScope ["one", "two"] ["one", "two"] (defScope s_ratio_product) := ⟨rfl, rfl, rfl, by decide +kernel, rfl, by decide +kernel, by decide +kernel⟩
theorem ok_ratio_product (T : Txt K mg) : Fn P w K mg base 3 "ratio_product" ["one", "two"] (sp_ratio_product K) := by
  refine fn_mk T 10 10 rfl rfl sc_ratio_product (fun vs H Q E h => len_ratio_product h) (fun _ _ _ _ _ _ us hl => match us, hl with | [_, _], _ => rfl) (fun f cdv A outer s H vs Q E hr h => ?_)
  obtain ⟨x, y, m, n, hc, hp, k⟩ := h
  obtain ⟨hx, hy⟩ : Bd m x ∧ Bd n y := by
    obtain ⟨_, _, _, q1, q2⟩ := AllP.two hp
    exact ⟨q1.1, q2.1⟩
  refine ⟨_, (pss_one (ps_ret (pe_fn (ok_ratio T) (hr.mono (by decide)) (pa_cons (pe_op op_mulX (pe_ix ix_tup (pv 0) pe_int (fun _ _ => rfl)) (pe_ix ix_tup (pv 1) pe_int (fun _ _ => rfl))) (pa_cons (pe_op op_mulX (pe_ix ix_tup (pv 0) pe_int (fun _ _ => rfl)) (pe_ix ix_tup (pv 1) pe_int (fun _ _ => rfl))) pa_nil))))), ?_⟩
  refine (?_ : Run none H _ _ ([some (pQ K m x), some (pQ K n y)] : Ga)) _ H (Same.refl H) (fits0 hp trivial rfl)
  obtain ⟨b1, b2, _⟩ := bd_mul hx hy
  rw [mul_as x y] at k
  exact r_done (e_ratio (e_mul hx.1 hy.1 (by omega) (e_num (e_var rfl)) (e_num (e_var rfl))) (e_mul (denI hx.2) (denI hy.2) (by omega) (e_den (e_var rfl)) (e_den (e_var rfl))) ⟨Int.mul_pos (den_pos x) (den_pos y), b1, b2, hc⟩) k
/-! ratio_over -/
def sp_ratio_over (K : PySem.W.Frag) : Sp := fun vs H Q _ => ∃ (x y : Rat) (m n : Nat), (0 < y ∧ m + n ≤ 13500) ∧ AllP [pQ K m x, pQ K n y] vs H ∧ ∀ v H', Same H H' → (pQ K (m + n) (x / y) : Pd) v H' → Q v H'
theorem len_ratio_over {vs : List V} {H : Hp} {Q : VK} {E : XK} (h : sp_ratio_over K vs H Q E) : vs.length = 2 := by
  obtain ⟨_, _, _, _, _, pp, _⟩ := h
  exact AllP.len pp
theorem e_ratio_over {l : Option Addr} {Γ : Ga} {t0 t1 : TE} {x y : Rat} {m n : Nat}  (h0 : EvG l t0 Γ (pQ K m x)) (h1 : EvG l t1 Γ (pQ K n y)) (hc : 0 < y ∧ m + n ≤ 13500) : EvG l (tCall (sp_ratio_over K) [] E0 (tCons t0 (tCons t1 tNil))) Γ (pQ K (m + n) (x / y)) := e_call (fun _ _ _ pp kk => ⟨x, y, m, n, hc, pp, kk⟩) (a_cons h0 (a_cons h1 a_nil))
theorem sc_ratio_over : FnScope ["one", "two"] ["one", "two"] (defScope s_ratio_over) := ⟨rfl, rfl, rfl, by decide +kernel, rfl, by decide +kernel, by decide +kernel⟩
theorem ok_ratio_over (T : Txt K mg) : Fn P w K mg base 3 "ratio_over" ["one", "two"] (sp_ratio_over K) := by
  refine fn_mk T 11 11 rfl rfl sc_ratio_over (fun vs H Q E h => len_ratio_over h) (fun _ _ _ _ _ _ us hl => match us, hl with | [_, _], _ => rfl) (fun f cdv A outer s H vs Q E hr h => ?_)
  obtain ⟨x, y, m, n, hc, hp, k⟩ := h
  obtain ⟨hx, hy⟩ : Bd m x ∧ Bd n y := by
    obtain ⟨_, _, _, q1, q2⟩ := AllP.two hp
    exact ⟨q1.1, q2.1⟩
  refine ⟨_, (pss_one (ps_ret (pe_fn (ok_ratio T) (hr.mono (by decide)) (pa_cons (pe_op op_mulX (pe_ix ix_tup (pv 0) pe_int (fun _ _ => rfl)) (pe_ix ix_tup (pv 1) pe_int (fun _ _ => rfl))) (pa_cons (pe_op op_mulX (pe_ix ix_tup (pv 0) pe_int (fun _ _ => rfl)) (pe_ix ix_tup (pv 1) pe_int (fun _ _ => rfl))) pa_nil))))), ?_⟩
  refine (?_ : Run none H _ _ ([some (pQ K m x), some (pQ K n y)] : Ga)) _ H (Same.refl H) (fits0 hp trivial rfl)
  obtain ⟨b1, b2, b3, _⟩ := bd_over hc.1 hx hy
  rw [over_as x y hc.1] at k
  exact r_done (e_ratio (e_mul hx.1 (denI hy.2) (by omega) (e_num (e_var rfl)) (e_den (e_var rfl))) (e_mul (denI hx.2) hy.1 (by omega) (e_den (e_var rfl)) (e_num (e_var rfl))) ⟨b3, b1, b2, hc.2⟩) k
/-! ratio_back -/
def sp_ratio_back (K : PySem.W.Frag) : Sp := fun vs H Q _ => ∃ (x : Rat) (m : Nat), (True) ∧ AllP [pQ K m x] vs H ∧ ∀ v H', Same H H' → (pQ K m (-x) : Pd) v H' → Q v H'
theorem len_ratio_back {vs : List V} {H : Hp} {Q : VK} {E : XK} (h : sp_ratio_back K vs H Q E) : vs.length = 1 := by
  obtain ⟨_, _, _, pp, _⟩ := h
  exact AllP.len pp
theorem e_ratio_back {l : Option Addr} {Γ : Ga} {t0 : TE} {x : Rat} {m : Nat}  (h0 : EvG l t0 Γ (pQ K m x)) : EvG l (tCall (sp_ratio_back K) [] E0 (tCons t0 tNil)) Γ (pQ K m (-x)) := e_call (fun _ _ _ pp kk => ⟨x, m, trivial, pp, kk⟩) (a_cons h0 a_nil)
theorem sc_ratio_back : FnScope ["one"] ["one"] (defScope s_ratio_back) := ⟨rfl, rfl, rfl, by decide +kernel, rfl, by decide +kernel, by decide +kernel⟩
theorem ok_ratio_back (T : Txt K mg) : Fn P w K mg base 1 "ratio_back" ["one"] (sp_ratio_back K) := by
  refine fn_mk T 12 12 rfl rfl sc_ratio_back (fun vs H Q E h => len_ratio_back h) (fun _ _ _ _ _ _ us hl => match us, hl with | [_], _ => rfl) (fun f cdv A outer s H vs Q E hr h => ?_)
  obtain ⟨x, m, hc, hp, k⟩ := h
  refine ⟨_, (pss_one (ps_ret (pe_tup (pa_cons (pe_un un_neg (pe_ix ix_tup (pv 0) pe_int (fun _ _ => rfl))) (pa_cons (pe_ix ix_tup (pv 0) pe_int (fun _ _ => rfl)) pa_nil))))), ?_⟩
  refine (?_ : Run none H _ _ ([some (pQ K m x)] : Ga)) _ H (Same.refl H) (fits0 hp trivial rfl)
  obtain ⟨_, _, q1⟩ := AllP.one hp
  refine r_done (f_q (e_to (e_tup (K := K) (a_cons (e_neg (e_num (e_var rfl))) (a_cons (e_den (e_var rfl)) a_nil))) ?_) (bd_neg q1.1)) k
  unfold pF
  rw [Rat.neg_num, Rat.neg_den]
/-! is_lower -/
def sp_is_lower (K : PySem.W.Frag) : Sp := fun vs H Q _ => ∃ (x y : Rat) (m n : Nat), (m + n ≤ 13500) ∧ AllP [pQ K m x, pQ K n y] vs H ∧ ∀ v H', Same H H' → (pV (.bl (decide (x < y))) : Pd) v H' → Q v H'
theorem len_is_lower {vs : List V} {H : Hp} {Q : VK} {E : XK} (h : sp_is_lower K vs H Q E) : vs.length = 2 := by
  obtain ⟨_, _, _, _, _, pp, _⟩ := h
  exact AllP.len pp
theorem e_is_lower {l : Option Addr} {Γ : Ga} {t0 t1 : TE} {x y : Rat} {m n : Nat}  (h0 : EvG l t0 Γ (pQ K m x)) (h1 : EvG l t1 Γ (pQ K n y)) (hc : m + n ≤ 13500) : EvG l (tCall (sp_is_lower K) [] E0 (tCons t0 (tCons t1 tNil))) Γ (pV (.bl (decide (x < y)))) := e_call (fun _ _ _ pp kk => ⟨x, y, m, n, hc, pp, kk⟩) (a_cons h0 (a_cons h1 a_nil))
theorem sc_is_lower : FnScope ["one", "two"] ["one", "two"] (defScope s_is_lower) := ⟨rfl, rfl, rfl, by decide +kernel, rfl, by decide +kernel, by decide +kernel⟩
theorem ok_is_lower (T : Txt K mg) : Fn P w K mg base 1 "is_lower" ["one", "two"] (sp_is_lower K) := by
  refine fn_mk T 13 13 rfl rfl sc_is_lower (fun vs H Q E h => len_is_lower h) (fun _ _ _ _ _ _ us hl => match us, hl with | [_, _], _ => rfl) (fun f cdv A outer s H vs Q E hr h => ?_)
  obtain ⟨x, y, m, n, hc, hp, k⟩ := h
  obtain ⟨hx, hy⟩ : Bd m x ∧ Bd n y := by
    obtain ⟨_, _, _, q1, q2⟩ := AllP.two hp
    exact ⟨q1.1, q2.1⟩
  refine ⟨_, (pss_one (ps_ret (pe_cmpR op_lt (pe_op op_mulX (pe_ix ix_tup (pv 0) pe_int (fun _ _ => rfl)) (pe_ix ix_tup (pv 1) pe_int (fun _ _ => rfl))) (pe_op op_mulX (pe_ix ix_tup (pv 1) pe_int (fun _ _ => rfl)) (pe_ix ix_tup (pv 0) pe_int (fun _ _ => rfl))) (nomark _)))), ?_⟩
  refine (?_ : Run none H _ _ ([some (pQ K m x), some (pQ K n y)] : Ga)) _ H (Same.refl H) (fits0 hp trivial rfl)
  refine r_done (e_bl (e_I0 (e_mul hx.1 (denI hy.2) (by omega) (e_num (e_var rfl)) (e_den (e_var rfl))) (e_mul hy.1 (denI hx.2) (by omega) (e_num (e_var rfl)) (e_den (e_var rfl)))) ?_) k
  exact decide_eq_decide.mpr (Rat.lt_iff x y).symm
/-! gauss_less -/
def sp_gauss_less (K : PySem.W.Frag) : Sp := fun vs H Q _ => ∃ (x y z t : Rat) (m n o q : Nat), (m + o + 1 ≤ 13500 ∧ n + q + 1 ≤ 13500) ∧ AllP [pT K [pQ K m x, pQ K n y], pT K [pQ K o z, pQ K q t]] vs H ∧ ∀ v H', Same H H' → (pT K [pQ K (m + o + 1) (x - z), pQ K (n + q + 1) (y - t)] : Pd) v H' → Q v H'
theorem len_gauss_less {vs : List V} {H : Hp} {Q : VK} {E : XK} (h : sp_gauss_less K vs H Q E) : vs.length = 2 := by
  obtain ⟨_, _, _, _, _, _, _, _, _, pp, _⟩ := h
  exact AllP.len pp
theorem e_gauss_less {l : Option Addr} {Γ : Ga} {t0 t1 : TE} {x y z t : Rat} {m n o q : Nat}  (h0 : EvG l t0 Γ (pT K [pQ K m x, pQ K n y])) (h1 : EvG l t1 Γ (pT K [pQ K o z, pQ K q t])) (hc : m + o + 1 ≤ 13500 ∧ n + q + 1 ≤ 13500) : EvG l (tCall (sp_gauss_less K) [] E0 (tCons t0 (tCons t1 tNil))) Γ (pT K [pQ K (m + o + 1) (x - z), pQ K (n + q + 1) (y - t)]) := e_call (fun _ _ _ pp kk => ⟨x, y, z, t, m, n, o, q, hc, pp, kk⟩) (a_cons h0 (a_cons h1 a_nil))
theorem sc_gauss_less : FnScope ["one", "two"] ["one", "two"] (defScope s_gauss_less) := ⟨rfl, rfl, rfl, by decide +kernel, rfl, by decide +kernel, by decide +kernel⟩
theorem ok_gauss_less (T : Txt K mg) : Fn P w K mg base 4 "gauss_less" ["one", "two"] (sp_gauss_less K) := by
  refine fn_mk T 14 14 rfl rfl sc_gauss_less (fun vs H Q E h => len_gauss_less h) (fun _ _ _ _ _ _ us hl => match us, hl with | [_, _], _ => rfl) (fun f cdv A outer s H vs Q E hr h => ?_)
  obtain ⟨x, y, z, t, m, n, o, q, hc, hp, k⟩ := h
  refine ⟨_, (pss_one (ps_ret (pe_tup (pa_cons (pe_fn (ok_ratio_less T) (hr.mono (by decide)) (pa_cons (pe_ix ix_tup (pv 0) pe_int (fun _ _ => rfl)) (pa_cons (pe_ix ix_tup (pv 1) pe_int (fun _ _ => rfl)) pa_nil))) (pa_cons (pe_fn (ok_ratio_less T) (hr.mono (by decide)) (pa_cons (pe_ix ix_tup (pv 0) pe_int (fun _ _ => rfl)) (pa_cons (pe_ix ix_tup (pv 1) pe_int (fun _ _ => rfl)) pa_nil))) pa_nil))))), ?_⟩
  refine (?_ : Run none H _ _ ([some (pT K [pQ K m x, pQ K n y]), some (pT K [pQ K o z, pQ K q t])] : Ga)) _ H (Same.refl H) (fits0 hp trivial rfl)
  exact r_done (e_tup (K := K) (a_cons (e_ratio_less (e_at 0 (e_var rfl) rfl) (e_at 0 (e_var rfl) rfl) (by omega)) (a_cons (e_ratio_less (e_at 1 (e_var rfl) rfl) (e_at 1 (e_var rfl) rfl) (by omega)) a_nil))) k
/-! gauss_product -/
def sp_gauss_product (K : PySem.W.Frag) : Sp := fun vs H Q _ => ∃ (x y z t : Rat) (m n o q : Nat), ((m + o) + (n + q) + 1 ≤ 13500 ∧ (m + q) + (n + o) + 1 ≤ 13500) ∧ AllP [pT K [pQ K m x, pQ K n y], pT K [pQ K o z, pQ K q t]] vs H ∧ ∀ v H', Same H H' → (pT K [pQ K ((m + o) + (n + q) + 1) (x * z - y * t), pQ K ((m + q) + (n + o) + 1) (x * t + y * z)] : Pd) v H' → Q v H'
theorem len_gauss_product {vs : List V} {H : Hp} {Q : VK} {E : XK} (h : sp_gauss_product K vs H Q E) : vs.length = 2 := by
  obtain ⟨_, _, _, _, _, _, _, _, _, pp, _⟩ := h
  exact AllP.len pp
theorem e_gauss_product {l : Option Addr} {Γ : Ga} {t0 t1 : TE} {x y z t : Rat} {m n o q : Nat}  (h0 : EvG l t0 Γ (pT K [pQ K m x, pQ K n y])) (h1 : EvG l t1 Γ (pT K [pQ K o z, pQ K q t])) (hc : (m + o) + (n + q) + 1 ≤ 13500 ∧ (m + q) + (n + o) + 1 ≤ 13500) : EvG l (tCall (sp_gauss_product K) [] E0 (tCons t0 (tCons t1 tNil))) Γ (pT K [pQ K ((m + o) + (n + q) + 1) (x * z - y * t), pQ K ((m + q) + (n + o) + 1) (x * t + y * z)]) := e_call (fun _ _ _ pp kk => ⟨x, y, z, t, m, n, o, q, hc, pp, kk⟩) (a_cons h0 (a_cons h1 a_nil))
theorem sc_gauss_product : FnScope ["one", "two", "real"] ["one", "two"] (defScope s_gauss_product) := ⟨rfl, rfl, rfl, by decide +kernel, rfl, by decide +kernel, by decide +kernel⟩
theorem ok_gauss_product (T : Txt K mg) : Fn P w K mg base 4 "gauss_product" ["one", "two"] (sp_gauss_product K) := by
  refine fn_mk T 15 15 rfl rfl sc_gauss_product (fun vs H Q E h => len_gauss_product h) (fun _ _ _ _ _ _ us hl => match us, hl with | [_, _], _ => rfl) (fun f cdv A outer s H vs Q E hr h => ?_)
  obtain ⟨x, y, z, t, m, n, o, q, hc, hp, k⟩ := h
  refine ⟨_, (pss_cons (ps_set (i := 2) sc_gauss_product.nd rfl (Or.inl rfl) (pe_fn (ok_ratio_less T) (hr.mono (by decide)) (pa_cons (pe_fn (ok_ratio_product T) (hr.mono (by decide)) (pa_cons (pe_ix ix_tup (pv 0) pe_int (fun _ _ => rfl)) (pa_cons (pe_ix ix_tup (pv 1) pe_int (fun _ _ => rfl)) pa_nil))) (pa_cons (pe_fn (ok_ratio_product T) (hr.mono (by decide)) (pa_cons (pe_ix ix_tup (pv 0) pe_int (fun _ _ => rfl)) (pa_cons (pe_ix ix_tup (pv 1) pe_int (fun _ _ => rfl)) pa_nil))) pa_nil))))
      (pss_one (ps_ret (pe_tup (pa_cons (pv 2) (pa_cons (pe_fn (ok_ratio_sum T) (hr.mono (by decide)) (pa_cons (pe_fn (ok_ratio_product T) (hr.mono (by decide)) (pa_cons (pe_ix ix_tup (pv 0) pe_int (fun _ _ => rfl)) (pa_cons (pe_ix ix_tup (pv 1) pe_int (fun _ _ => rfl)) pa_nil))) (pa_cons (pe_fn (ok_ratio_product T) (hr.mono (by decide)) (pa_cons (pe_ix ix_tup (pv 0) pe_int (fun _ _ => rfl)) (pa_cons (pe_ix ix_tup (pv 1) pe_int (fun _ _ => rfl)) pa_nil))) pa_nil))) pa_nil)))))), ?_⟩
  refine (?_ : Run none H _ _ ([some (pT K [pQ K m x, pQ K n y]), some (pT K [pQ K o z, pQ K q t]), none] : Ga)) _ H (Same.refl H) (fits0 hp trivial rfl)
  exact r_set (e_ratio_less (e_ratio_product (e_at 0 (e_var rfl) rfl) (e_at 0 (e_var rfl) rfl) (by omega)) (e_ratio_product (e_at 1 (e_var rfl) rfl) (e_at 1 (e_var rfl) rfl) (by omega)) (by omega))
    (r_done (e_tup (K := K) (a_cons (e_var rfl) (a_cons (e_ratio_sum (e_ratio_product (e_at 0 (e_var rfl) rfl) (e_at 1 (e_var rfl) rfl) (by omega)) (e_ratio_product (e_at 1 (e_var rfl) rfl) (e_at 0 (e_var rfl) rfl) (by omega)) (by omega)) a_nil))) k)
/-! conjugate -/
def sp_conjugate (K : PySem.W.Frag) : Sp := fun vs H Q _ => ∃ (x y : Rat) (m n : Nat), (True) ∧ AllP [pT K [pQ K m x, pQ K n y]] vs H ∧ ∀ v H', Same H H' → (pT K [pQ K m x, pQ K n (-y)] : Pd) v H' → Q v H'
theorem len_conjugate {vs : List V} {H : Hp} {Q : VK} {E : XK} (h : sp_conjugate K vs H Q E) : vs.length = 1 := by
  obtain ⟨_, _, _, _, _, pp, _⟩ := h
  exact AllP.len pp
theorem e_conjugate {l : Option Addr} {Γ : Ga} {t0 : TE} {x y : Rat} {m n : Nat}  (h0 : EvG l t0 Γ (pT K [pQ K m x, pQ K n y])) : EvG l (tCall (sp_conjugate K) [] E0 (tCons t0 tNil)) Γ (pT K [pQ K m x, pQ K n (-y)]) := e_call (fun _ _ _ pp kk => ⟨x, y, m, n, trivial, pp, kk⟩) (a_cons h0 a_nil)
theorem sc_conjugate : FnScope ["one"] ["one"] (defScope s_conjugate) := ⟨rfl, rfl, rfl, by decide +kernel, rfl, by decide +kernel, by decide +kernel⟩
theorem ok_conjugate (T : Txt K mg) : Fn P w K mg base 2 "conjugate" ["one"] (sp_conjugate K) := by
  refine fn_mk T 16 16 rfl rfl sc_conjugate (fun vs H Q E h => len_conjugate h) (fun _ _ _ _ _ _ us hl => match us, hl with | [_], _ => rfl) (fun f cdv A outer s H vs Q E hr h => ?_)
  obtain ⟨x, y, m, n, hc, hp, k⟩ := h
  refine ⟨_, (pss_one (ps_ret (pe_tup (pa_cons (pe_ix ix_tup (pv 0) pe_int (fun _ _ => rfl)) (pa_cons (pe_fn (ok_ratio_back T) (hr.mono (by decide)) (pa_cons (pe_ix ix_tup (pv 0) pe_int (fun _ _ => rfl)) pa_nil)) pa_nil))))), ?_⟩
  refine (?_ : Run none H _ _ ([some (pT K [pQ K m x, pQ K n y])] : Ga)) _ H (Same.refl H) (fits0 hp trivial rfl)
  exact r_done (e_tup (K := K) (a_cons (e_at 0 (e_var rfl) rfl) (a_cons (e_ratio_back (e_at 1 (e_var rfl) rfl)) a_nil))) k
/-! square_length -/
def sp_square_length (K : PySem.W.Frag) : Sp := fun vs H Q _ => ∃ (x y : Rat) (m n : Nat), ((m + m) + (n + n) + 1 ≤ 13500) ∧ AllP [pT K [pQ K m x, pQ K n y]] vs H ∧ ∀ v H', Same H H' → (pQ K ((m + m) + (n + n) + 1) (x * x + y * y) : Pd) v H' → Q v H'
theorem len_square_length {vs : List V} {H : Hp} {Q : VK} {E : XK} (h : sp_square_length K vs H Q E) : vs.length = 1 := by
  obtain ⟨_, _, _, _, _, pp, _⟩ := h
  exact AllP.len pp
theorem e_square_length {l : Option Addr} {Γ : Ga} {t0 : TE} {x y : Rat} {m n : Nat}  (h0 : EvG l t0 Γ (pT K [pQ K m x, pQ K n y])) (hc : (m + m) + (n + n) + 1 ≤ 13500) : EvG l (tCall (sp_square_length K) [] E0 (tCons t0 tNil)) Γ (pQ K ((m + m) + (n + n) + 1) (x * x + y * y)) := e_call (fun _ _ _ pp kk => ⟨x, y, m, n, hc, pp, kk⟩) (a_cons h0 a_nil)
theorem sc_square_length : FnScope ["one"] ["one"] (defScope s_square_length) := ⟨rfl, rfl, rfl, by decide +kernel, rfl, by decide +kernel, by decide +kernel⟩
theorem ok_square_length (T : Txt K mg) : Fn P w K mg base 4 "square_length" ["one"] (sp_square_length K) := by
  refine fn_mk T 17 17 rfl rfl sc_square_length (fun vs H Q E h => len_square_length h) (fun _ _ _ _ _ _ us hl => match us, hl with | [_], _ => rfl) (fun f cdv A outer s H vs Q E hr h => ?_)
  obtain ⟨x, y, m, n, hc, hp, k⟩ := h
  refine ⟨_, (pss_one (ps_ret (pe_fn (ok_ratio_sum T) (hr.mono (by decide)) (pa_cons (pe_fn (ok_ratio_product T) (hr.mono (by decide)) (pa_cons (pe_ix ix_tup (pv 0) pe_int (fun _ _ => rfl)) (pa_cons (pe_ix ix_tup (pv 0) pe_int (fun _ _ => rfl)) pa_nil))) (pa_cons (pe_fn (ok_ratio_product T) (hr.mono (by decide)) (pa_cons (pe_ix ix_tup (pv 0) pe_int (fun _ _ => rfl)) (pa_cons (pe_ix ix_tup (pv 0) pe_int (fun _ _ => rfl)) pa_nil))) pa_nil))))), ?_⟩
  refine (?_ : Run none H _ _ ([some (pT K [pQ K m x, pQ K n y])] : Ga)) _ H (Same.refl H) (fits0 hp trivial rfl)
  exact r_done (e_ratio_sum (e_ratio_product (e_at 0 (e_var rfl) rfl) (e_at 0 (e_var rfl) rfl) (by omega)) (e_ratio_product (e_at 1 (e_var rfl) rfl) (e_at 1 (e_var rfl) rfl) (by omega)) (by omega)) k
/-! is_pair -/
def sp_is_pair (K : PySem.W.Frag) : Sp := fun vs H Q _ => ∃ (x y : Rat) (m n : Nat), (True) ∧ AllP [pT K [pQ K m x, pQ K n y]] vs H ∧ ∀ v H', Same H H' → (pV (.bl true) : Pd) v H' → Q v H'
theorem len_is_pair {vs : List V} {H : Hp} {Q : VK} {E : XK} (h : sp_is_pair K vs H Q E) : vs.length = 1 := by
  obtain ⟨_, _, _, _, _, pp, _⟩ := h
  exact AllP.len pp
theorem e_is_pair {l : Option Addr} {Γ : Ga} {t0 : TE} {x y : Rat} {m n : Nat}  (h0 : EvG l t0 Γ (pT K [pQ K m x, pQ K n y])) : EvG l (tCall (sp_is_pair K) [] E0 (tCons t0 tNil)) Γ (pV (.bl true)) := e_call (fun _ _ _ pp kk => ⟨x, y, m, n, trivial, pp, kk⟩) (a_cons h0 a_nil)
theorem sc_is_pair : FnScope ["value"] ["value"] (defScope s_is_pair) := ⟨rfl, rfl, rfl, by decide +kernel, rfl, by decide +kernel, by decide +kernel⟩
theorem ok_is_pair (T : Txt K mg) : Fn P w K mg base 4 "is_pair" ["value"] (sp_is_pair K) := by
  refine fn_mk T 18 18 rfl rfl sc_is_pair (fun vs H Q E h => len_is_pair h) (fun _ _ _ _ _ _ us hl => match us, hl with | [_], _ => rfl) (fun f cdv A outer s H vs Q E hr h => ?_)
  obtain ⟨x, y, m, n, hc, hp, k⟩ := h
  refine ⟨_, (pss_one (ps_ret (pe_and (pe_callB call_isi rfl (T.free 104 rfl) (by decide +kernel) (pa_cons (pv 0) (pa_cons (pe_bltn (v := .ty "tuple") rfl (T.free 111 rfl) (by decide +kernel) rfl) pa_nil))) (pe_and (pe_cmpR op_eq (pe_callB call_len_seq rfl (T.free 105 rfl) (by decide +kernel) (pa_cons (pv 0) pa_nil)) pe_int (nomark _)) (pe_and (pe_fn (ok_is_ratio T) (hr.mono (by decide)) (pa_cons (pe_ix ix_tup (pv 0) pe_int (fun _ _ => rfl)) pa_nil)) (pe_one (pe_fn (ok_is_ratio T) (hr.mono (by decide)) (pa_cons (pe_ix ix_tup (pv 0) pe_int (fun _ _ => rfl)) pa_nil)))))))), ?_⟩
  refine (?_ : Run none H _ _ ([some (pT K [pQ K m x, pQ K n y])] : Ga)) _ H (Same.refl H) (fits0 hp trivial rfl)
  exact r_done (e_and (b := true) (c := true) (e_isi ty_tup (by decide +kernel) (e_var rfl)) fun _ => e_and (b := true) (c := true) (e_bl (e_eq rfl (e_lenT (e_var rfl)) e_c) (decide_eq_true rfl)) fun _ => e_and (b := true) (c := true) (e_is_ratio (e_at 0 (e_var rfl) rfl)) fun _ => e_is_ratio (e_at 1 (e_var rfl) rfl)) k
/-! is_unit -/
def sp_is_unit (K : PySem.W.Frag) : Sp := fun vs H Q _ => ∃ (x y : Rat) (m n : Nat), (x * x + y * y = 1 ∧ (m + m) + (n + n) + 1 ≤ 13500) ∧ AllP [pT K [pQ K m x, pQ K n y]] vs H ∧ ∀ v H', Same H H' → (pV (.bl true) : Pd) v H' → Q v H'
theorem len_is_unit {vs : List V} {H : Hp} {Q : VK} {E : XK} (h : sp_is_unit K vs H Q E) : vs.length = 1 := by
  obtain ⟨_, _, _, _, _, pp, _⟩ := h
  exact AllP.len pp
theorem e_is_unit {l : Option Addr} {Γ : Ga} {t0 : TE} {x y : Rat} {m n : Nat}  (h0 : EvG l t0 Γ (pT K [pQ K m x, pQ K n y])) (hc : x * x + y * y = 1 ∧ (m + m) + (n + n) + 1 ≤ 13500) : EvG l (tCall (sp_is_unit K) [] E0 (tCons t0 tNil)) Γ (pV (.bl true)) := e_call (fun _ _ _ pp kk => ⟨x, y, m, n, hc, pp, kk⟩) (a_cons h0 a_nil)
theorem sc_is_unit : FnScope ["value"] ["value"] (defScope s_is_unit) := ⟨rfl, rfl, rfl, by decide +kernel, rfl, by decide +kernel, by decide +kernel⟩
theorem ok_is_unit (T : Txt K mg) : Fn P w K mg base 5 "is_unit" ["value"] (sp_is_unit K) := by
  refine fn_mk T 19 19 rfl rfl sc_is_unit (fun vs H Q E h => len_is_unit h) (fun _ _ _ _ _ _ us hl => match us, hl with | [_], _ => rfl) (fun f cdv A outer s H vs Q E hr h => ?_)
  obtain ⟨x, y, m, n, hc, hp, k⟩ := h
  refine ⟨_, (pss_one (ps_ret (pe_and (pe_fn (ok_is_pair T) (hr.mono (by decide)) (pa_cons (pv 0) pa_nil)) (pe_one (pe_cmpR (op_eqD hr.units) (pe_fn (ok_square_length T) (hr.mono (by decide)) (pa_cons (pv 0) pa_nil)) (pe_glob (v := .ref (He.ga K "ONE")) rfl (T.glo 85 rfl) rfl) (nomark _)))))), ?_⟩
  refine (?_ : Run none H _ _ ([some (pT K [pQ K m x, pQ K n y])] : Ga)) _ H (Same.refl H) (fits0 hp trivial rfl)
  exact r_done (e_and (b := true) (c := true) (e_is_pair (e_var rfl)) fun _ => e_bl (e_eqQ (e_square_length (e_var rfl) hc.2) (gl_ONE T)) (decide_eq_true hc.1)) k
/-! is_way -/
def sp_is_way (K : PySem.W.Frag) : Sp := fun vs H Q _ => ∃ (a b : Int), (gcdI a b = 1) ∧ AllP [pT K [pV (.int a), pV (.int b)]] vs H ∧ ∀ v H', Same H H' → (pV (.bl true) : Pd) v H' → Q v H'
theorem len_is_way {vs : List V} {H : Hp} {Q : VK} {E : XK} (h : sp_is_way K vs H Q E) : vs.length = 1 := by
  obtain ⟨_, _, _, pp, _⟩ := h
  exact AllP.len pp
theorem e_is_way {l : Option Addr} {Γ : Ga} {t0 : TE} {a b : Int}  (h0 : EvG l t0 Γ (pT K [pV (.int a), pV (.int b)])) (hc : gcdI a b = 1) : EvG l (tCall (sp_is_way K) [] E0 (tCons t0 tNil)) Γ (pV (.bl true)) := e_call (fun _ _ _ pp kk => ⟨a, b, hc, pp, kk⟩) (a_cons h0 a_nil)
theorem sc_is_way : FnScope ["value"] ["value"] (defScope s_is_way) := ⟨rfl, rfl, rfl, by decide +kernel, rfl, by decide +kernel, by decide +kernel⟩
theorem ok_is_way (T : Txt K mg) : Fn P w K mg base 3 "is_way" ["value"] (sp_is_way K) := by
  refine fn_mk T 20 20 rfl rfl sc_is_way (fun vs H Q E h => len_is_way h) (fun _ _ _ _ _ _ us hl => match us, hl with | [_], _ => rfl) (fun f cdv A outer s H vs Q E hr h => ?_)
  obtain ⟨a, b, hc, hp, k⟩ := h
  refine ⟨_, (pss_one (ps_ret (pe_and (pe_fn (ok_are_wholes T) (hr.mono (by decide)) (pa_cons (pv 0) (pa_cons pe_int pa_nil))) (pe_one (pe_fn (ok_is_reduced T) (hr.mono (by decide)) (pa_cons (pv 0) pa_nil)))))), ?_⟩
  refine (?_ : Run none H _ _ ([some (pT K [pV (.int a), pV (.int b)])] : Ga)) _ H (Same.refl H) (fits0 hp trivial rfl)
  exact r_done (e_and (b := true) (c := true) (e_are_wholes (e_var rfl) e_c) fun _ => e_is_reduced (e_var rfl) hc) k
/-! way_along -/
def sp_way_along (K : PySem.W.Frag) : Sp := fun vs H Q _ => ∃ (x y : Rat) (m n : Nat), (m + n ≤ 13500) ∧ AllP [pQ K m x, pQ K n y] vs H ∧ ∀ v H', Same H H' → (pT K [pV (.int (way x y).1), pV (.int (way x y).2)] : Pd) v H' → Q v H'
theorem len_way_along {vs : List V} {H : Hp} {Q : VK} {E : XK} (h : sp_way_along K vs H Q E) : vs.length = 2 := by
  obtain ⟨_, _, _, _, _, pp, _⟩ := h
  exact AllP.len pp
theorem e_way_along {l : Option Addr} {Γ : Ga} {t0 t1 : TE} {x y : Rat} {m n : Nat}  (h0 : EvG l t0 Γ (pQ K m x)) (h1 : EvG l t1 Γ (pQ K n y)) (hc : m + n ≤ 13500) : EvG l (tCall (sp_way_along K) [] E0 (tCons t0 (tCons t1 tNil))) Γ (pT K [pV (.int (way x y).1), pV (.int (way x y).2)]) := e_call (fun _ _ _ pp kk => ⟨x, y, m, n, hc, pp, kk⟩) (a_cons h0 (a_cons h1 a_nil))
theorem sc_way_along : FnScope ["right", "up"] ["right", "up"] (defScope s_way_along) := ⟨rfl, rfl, rfl, by decide +kernel, rfl, by decide +kernel, by decide +kernel⟩
theorem ok_way_along (T : Txt K mg) : Fn P w K mg base 3 "way_along" ["right", "up"] (sp_way_along K) := by
  refine fn_mk T 21 21 rfl rfl sc_way_along (fun vs H Q E h => len_way_along h) (fun _ _ _ _ _ _ us hl => match us, hl with | [_, _], _ => rfl) (fun f cdv A outer s H vs Q E hr h => ?_)
  obtain ⟨x, y, m, n, hc, hp, k⟩ := h
  obtain ⟨hx, hy⟩ : Bd m x ∧ Bd n y := by
    obtain ⟨_, _, _, q1, q2⟩ := AllP.two hp
    exact ⟨q1.1, q2.1⟩
  refine ⟨_, (pss_one (ps_ret (pe_fn (ok_reduced T) (hr.mono (by decide)) (pa_cons (pe_tup (pa_cons (pe_op op_mulX (pe_ix ix_tup (pv 0) pe_int (fun _ _ => rfl)) (pe_ix ix_tup (pv 1) pe_int (fun _ _ => rfl))) (pa_cons (pe_op op_mulX (pe_ix ix_tup (pv 1) pe_int (fun _ _ => rfl)) (pe_ix ix_tup (pv 0) pe_int (fun _ _ => rfl))) pa_nil))) pa_nil)))), ?_⟩
  refine (?_ : Run none H _ _ ([some (pQ K m x), some (pQ K n y)] : Ga)) _ H (Same.refl H) (fits0 hp trivial rfl)
  have b1 := Nat.lt_of_lt_of_le (mul_lt hx.1 (denI hy.2)) (pow_le hc)
  have b2 := Nat.lt_of_lt_of_le (mul_lt hy.1 (denI hx.2)) (pow_le (show n + m ≤ 13500 by omega))
  exact r_done (e_reduced (e_tup (K := K) (a_cons (e_mul hx.1 (denI hy.2) (by omega) (e_num (e_var rfl)) (e_den (e_var rfl))) (a_cons (e_mul hy.1 (denI hx.2) (by omega) (e_num (e_var rfl)) (e_den (e_var rfl))) a_nil))) ⟨b1, b2⟩) k
/-! are_ratios -/
def sp_are_ratios (K : PySem.W.Frag) : Sp := fun vs H Q _ => ∃ (x1 x2 x3 x4 x5 : Rat) (n : Nat), (True) ∧ AllP [pT K [pQ K n x1, pQ K n x2, pQ K n x3, pQ K n x4, pQ K n x5], pV (.int 5)] vs H ∧ ∀ v H', Same H H' → (pV (.bl true) : Pd) v H' → Q v H'
theorem len_are_ratios {vs : List V} {H : Hp} {Q : VK} {E : XK} (h : sp_are_ratios K vs H Q E) : vs.length = 2 := by
  obtain ⟨_, _, _, _, _, _, _, pp, _⟩ := h
  exact AllP.len pp
theorem e_are_ratios {l : Option Addr} {Γ : Ga} {t0 t1 : TE} {x1 x2 x3 x4 x5 : Rat} {n : Nat}  (h0 : EvG l t0 Γ (pT K [pQ K n x1, pQ K n x2, pQ K n x3, pQ K n x4, pQ K n x5])) (h1 : EvG l t1 Γ (pV (.int 5))) : EvG l (tCall (sp_are_ratios K) [] E0 (tCons t0 (tCons t1 tNil))) Γ (pV (.bl true)) := e_call (fun _ _ _ pp kk => ⟨x1, x2, x3, x4, x5, n, trivial, pp, kk⟩) (a_cons h0 (a_cons h1 a_nil))
theorem sc_are_ratios : FnScope ["value", "many", "number"] ["value", "many"] (defScope s_are_ratios) := ⟨rfl, rfl, rfl, by decide +kernel, rfl, by decide +kernel, by decide +kernel⟩
theorem ok_are_ratios (T : Txt K mg) : Fn P w K mg base 4 "are_ratios" ["value", "many"] (sp_are_ratios K) := by
  refine fn_mk T 22 22 rfl rfl sc_are_ratios (fun vs H Q E h => len_are_ratios h) (fun _ _ _ _ _ _ us hl => match us, hl with | [_, _], _ => rfl) (fun f cdv A outer s H vs Q E hr h => ?_)
  obtain ⟨x1, x2, x3, x4, x5, n, hc, hp, k⟩ := h
  refine ⟨_, (pss_one (ps_ret (pe_and (pe_callB call_isi rfl (T.free 104 rfl) (by decide +kernel) (pa_cons (pv 0) (pa_cons (pe_bltn (v := .ty "tuple") rfl (T.free 111 rfl) (by decide +kernel) rfl) pa_nil))) (pe_and (pe_cmpR op_eq (pe_callB call_len_seq rfl (T.free 105 rfl) (by decide +kernel) (pa_cons (pv 0) pa_nil)) (pv 1) (nomark _)) (pe_one (pe_callB (cr_all rfl) rfl (T.free 100 rfl) (by decide +kernel) (pa_cons (pe_lc (own := [("number", 2)]) (g := (gName 2)) (tt := tYes) rfl sc_are_ratios.nd  (pi_tup (pv 0)) (blkOk_by (own := [("number", 2)]) (N := ["value", "many", "number"]) (sc := defScope s_are_ratios) (by decide +kernel)) (fun _ _ _ _ _ => (pg_name (i := 2) sc_are_ratios.nd rfl (by first | exact Or.inl rfl | exact Or.inr rfl))) (fun _ _ _ _ _ => pts_nil) (fun _ _ _ _ _ => (pe_fn (ok_is_ratio T) (hr.mono (by decide)) (pa_cons (pv 2) pa_nil)))) pa_nil))))))), ?_⟩
  refine (?_ : Run none H _ _ ([some (pT K [pQ K n x1, pQ K n x2, pQ K n x3, pQ K n x4, pQ K n x5]), some (pV (.int 5)), none] : Ga)) _ H (Same.refl H) (fits0 hp trivial rfl)
  refine r_done (e_and (b := true) (c := true) (e_isi ty_tup (by decide +kernel) (e_var rfl)) fun _ => e_and (b := true) (c := true) (e_bl (e_eq rfl (e_lenT (e_var rfl)) (e_var rfl)) (decide_eq_true rfl)) fun _ => e_all (bs := [true, true, true, true, true]) rfl (e_lcT (Rs := [pV (.bl true), pV (.bl true), pV (.bl true), pV (.bl true), pV (.bl true)]) (e_var rfl) ?_)) k
  exact ⟨turn1_name (e_is_ratio (e_var rfl)), turn1_name (e_is_ratio (e_var rfl)), turn1_name (e_is_ratio (e_var rfl)), turn1_name (e_is_ratio (e_var rfl)), turn1_name (e_is_ratio (e_var rfl)), trivial⟩
/-! is_fivefold -/
def sp_is_fivefold (K : PySem.W.Frag) : Sp := fun vs H Q _ => ∃ (x1 x2 x3 x4 x5 : Rat) (n : Nat), (True) ∧ AllP [pT K [pQ K n x1, pQ K n x2, pQ K n x3, pQ K n x4, pQ K n x5]] vs H ∧ ∀ v H', Same H H' → (pV (.bl true) : Pd) v H' → Q v H'
theorem len_is_fivefold {vs : List V} {H : Hp} {Q : VK} {E : XK} (h : sp_is_fivefold K vs H Q E) : vs.length = 1 := by
  obtain ⟨_, _, _, _, _, _, _, pp, _⟩ := h
  exact AllP.len pp
theorem e_is_fivefold {l : Option Addr} {Γ : Ga} {t0 : TE} {x1 x2 x3 x4 x5 : Rat} {n : Nat}  (h0 : EvG l t0 Γ (pT K [pQ K n x1, pQ K n x2, pQ K n x3, pQ K n x4, pQ K n x5])) : EvG l (tCall (sp_is_fivefold K) [] E0 (tCons t0 tNil)) Γ (pV (.bl true)) := e_call (fun _ _ _ pp kk => ⟨x1, x2, x3, x4, x5, n, trivial, pp, kk⟩) (a_cons h0 a_nil)
theorem sc_is_fivefold : FnScope ["value"] ["value"] (defScope s_is_fivefold) := ⟨rfl, rfl, rfl, by decide +kernel, rfl, by decide +kernel, by decide +kernel⟩
theorem ok_is_fivefold (T : Txt K mg) : Fn P w K mg base 5 "is_fivefold" ["value"] (sp_is_fivefold K) := by
  refine fn_mk T 23 23 rfl rfl sc_is_fivefold (fun vs H Q E h => len_is_fivefold h) (fun _ _ _ _ _ _ us hl => match us, hl with | [_], _ => rfl) (fun f cdv A outer s H vs Q E hr h => ?_)
  obtain ⟨x1, x2, x3, x4, x5, n, hc, hp, k⟩ := h
  refine ⟨_, (pss_one (ps_ret (pe_fn (ok_are_ratios T) (hr.mono (by decide)) (pa_cons (pv 0) (pa_cons pe_int pa_nil))))), ?_⟩
  refine (?_ : Run none H _ _ ([some (pT K [pQ K n x1, pQ K n x2, pQ K n x3, pQ K n x4, pQ K n x5])] : Ga)) _ H (Same.refl H) (fits0 hp trivial rfl)
  exact r_done (e_are_ratios (e_var rfl) e_c) k
end
end K30

/-! text: KSurd -/
set_option Elab.async false
set_option linter.all false
set_option maxRecDepth 100000
set_option maxHeartbeats 4000000
namespace K30
open PySem PySem.Spec PyProof.Rows L2 K30M
section
variable {P : Program} {w : World} {K : PySem.W.Frag} {mg : Str → Option Value} {base : Heap}
theorem isqrt_sq (k : Nat) : Float64.isqrt (k * k) = k := by
  obtain ⟨h1, h2⟩ := PySem.Float64.isqrt_spec (k * k)
  generalize Float64.isqrt (k * k) = r at h1 h2
  have a1 : r ≤ k := Nat.mul_self_le_mul_self_iff.mp h1
  have a2 : k < r + 1 := Nat.mul_self_lt_mul_self_iff.mp h2
  omega
theorem sq_nd (t : Rat) : (t * t).num = t.num * t.num ∧ ((t * t).den : Int) = t.den * t.den := by
  have hp : (0 : Int) < (t.den : Int) * t.den := Int.mul_pos (den_pos t) (den_pos t)
  obtain ⟨e1, e2⟩ := div_nd (t.num * t.num) (t.den * t.den) hp
  have g : gcdI (t.num * t.num) ((t.den : Int) * t.den) = 1 := by
    have c := t.reduced
    unfold gcdI
    rw [Int.natAbs_mul, Int.natAbs_mul, Int.natAbs_natCast]
    have : Nat.Coprime (t.num.natAbs * t.num.natAbs) (t.den * t.den) := Nat.Coprime.mul_left (Nat.Coprime.mul_right c c) (Nat.Coprime.mul_right c c)
    exact congrArg Nat.cast this
  rw [g, Int.ediv_one] at e1 e2
  rw [mul_as t t]
  exact ⟨e1, e2⟩
/-- the way times a root -/
theorem sg_nd {y z t : Rat} (t0 : 0 ≤ t) (e : y * y * z = t * t) : ((sg y : Rat) * t).num = sg y * t.num ∧ ((sg y : Rat) * t).den = t.den := by
  by_cases h : y = 0
  · have : t = 0 := by
      rw [h] at e
      exact sq_zero (by grind)
    rw [sg_zero h, this]
    exact ⟨by decide +kernel, by decide +kernel⟩
  · rcases Rat.le_total (a := 0) (b := y) with q | q
    · rw [sg_pos (by grind), c1, Rat.one_mul]
      exact ⟨by omega, rfl⟩
    · rw [sg_neg (by grind), cm1]
      have : -1 * t = -t := by grind
      rw [this, Rat.neg_num, Rat.neg_den]
      exact ⟨by omega, rfl⟩
theorem sg_abs (y : Rat) : (sg y).natAbs < 2 ^ 1 := by
  unfold sg
  rcases Int.lt_trichotomy y.num 0 with h | h | h
  · rw [Int.sign_eq_neg_one_of_neg h]
    decide
  · rw [h]
    decide
  · rw [Int.sign_eq_one_of_pos h]
    decide
abbrev rIsN : R2 := fun x y H Q => y = .non ∧ Q (.bl (decide (x = .non))) H
theorem e_isN' {l : Option Addr} {Γ : Ga} {P : Pd} {te : TE} (hn : ∀ v H, P v H → v ≠ .non) (h : EvG l te Γ P) : EvG l (tOp rIsN te (tC .non)) Γ (pV (.bl false)) :=
  e_op (P := P) (P' := pV .non) (fun x y H Q hx hy k => ⟨hy, k _ H (Same.refl H) (by
    show V.bl _ = V.bl false
    rw [decide_eq_false (hn x H hx)])⟩) h e_c
theorem q_ref {K : PySem.W.Frag} {n : Nat} {q : Rat} : ∀ v H, pQ K n q v H → v ≠ .non := fun v H ⟨_, a, vs, e, _⟩ z => by
  rw [z] at e
  cases e
/-- a fraction is unpacked -/
theorem g_q {l : Option Addr} {K : PySem.W.Frag} {m : Nat} {q : Rat} {gs : TGs} {Γ Δ : Ga} (h : Tgts l gs [pV (.int q.num), pV (.int (q.den : Int))] Γ Δ) : Tgt l (gTup K 2 gs) (pQ K m q) Γ Δ := fun v σ H Q f b k =>
  g_tup (K := K) (Ps := [pV (.int q.num), pV (.int (q.den : Int))]) rfl h v σ H Q f (fun H' u => (b H' u).2) k
/-! square_root -/
def sp_square_root (K : PySem.W.Frag) : Sp := fun vs H Q _ => ∃ (t : Rat) (n : Nat), (0 ≤ t ∧ n ≤ 13500) ∧ AllP [pQ K n (t * t)] vs H ∧ ∀ v H', Same H H' → (pQ K n t : Pd) v H' → Q v H'
theorem len_square_root {vs : List V} {H : Hp} {Q : VK} {E : XK} (h : sp_square_root K vs H Q E) : vs.length = 1 := by
  obtain ⟨_, _, _, pp, _⟩ := h
  exact AllP.len pp
theorem e_square_root {l : Option Addr} {Γ : Ga} {t0 : TE} {t : Rat} {n : Nat}  (h0 : EvG l t0 Γ (pQ K n (t * t))) (hc : 0 ≤ t ∧ n ≤ 13500) : EvG l (tCall (sp_square_root K) [] E0 (tCons t0 tNil)) Γ (pQ K n t) := e_call (fun _ _ _ pp kk => ⟨t, n, hc, pp, kk⟩) (a_cons h0 a_nil)
theorem sc_square_root : FnScope ["number", "top", "below"] ["number"] (defScope s_square_root) := ⟨rfl, rfl, rfl, by decide +kernel, rfl, by decide +kernel, by decide +kernel⟩
theorem ok_square_root (T : Txt K mg) : Fn P w K mg base 1 "square_root" ["number"] (sp_square_root K) := by
  refine fn_mk T 24 24 rfl rfl sc_square_root (fun vs H Q E h => len_square_root h) (fun _ _ _ _ _ _ us hl => match us, hl with | [_], _ => rfl) (fun f cdv A outer s H vs Q E hr h => ?_)
  obtain ⟨t, n, hc, hp, k⟩ := h
  obtain ⟨_, _, q1⟩ := AllP.one hp
  obtain ⟨t0, hn⟩ := hc
  obtain ⟨n1, n2⟩ := sq_nd t
  have tn : 0 ≤ t.num := Rat.num_nonneg.mpr t0
  have b1 : (t * t).num.natAbs < 2 ^ 13500 := Nat.lt_of_lt_of_le q1.1.1 (pow_le hn)
  have b2 : ((t * t).den : Int).natAbs < 2 ^ 13500 := Nat.lt_of_lt_of_le (denI q1.1.2) (pow_le hn)
  have s1 : ((Float64.isqrt (t * t).num.toNat : Nat) : Int) = t.num := by
    rw [n1]
    obtain ⟨j, hj⟩ : ∃ j : Nat, t.num = (j : Int) := ⟨t.num.toNat, by omega⟩
    rw [hj, show ((j : Int) * (j : Int)).toNat = j * j by rw [← Int.natCast_mul]; rfl, isqrt_sq]
  have s2 : ((Float64.isqrt ((t * t).den : Int).toNat : Nat) : Int) = (t.den : Int) := by
    rw [n2, show ((t.den : Int) * (t.den : Int)).toNat = t.den * t.den by rw [← Int.natCast_mul]; rfl, isqrt_sq]
  have c1 : t.num.natAbs < 2 ^ n := by
    have h1 := q1.1.1
    rw [n1, Int.natAbs_mul] at h1
    exact Nat.lt_of_le_of_lt (Nat.le_mul_self _) h1
  have c2 : t.den < 2 ^ n := by
    have h1 := denI q1.1.2
    rw [n2, Int.natAbs_mul, Int.natAbs_natCast] at h1
    exact Nat.lt_of_le_of_lt (Nat.le_mul_self _) h1
  refine ⟨_, (pss_cons (ps_par (i := 1) (j := 2) rfl sc_square_root.nd rfl rfl (by decide) rfl rfl (pa_cons (pe_callBfun cr_isqrt rfl T.isqrt (pa_cons (pe_ix ix_tup (pv 0) pe_int (fun _ _ => rfl)) pa_nil)) (pa_cons (pe_callBfun cr_isqrt rfl T.isqrt (pa_cons (pe_ix ix_tup (pv 0) pe_int (fun _ _ => rfl)) pa_nil)) pa_nil)) (by rfl))
      (pss_one (ps_ret (pe_ifExp (PW.pt (pw_and (pt_cmpR op_eq (pe_op op_mulX (pv 1) (pv 1)) (pe_ix ix_tup (pv 0) pe_int (fun _ _ => rfl)) (nomark _)) (pw_and1 (pt_cmpR op_eq (pe_op op_mulX (pv 2) (pv 2)) (pe_ix ix_tup (pv 0) pe_int (fun _ _ => rfl)) (nomark _))))) (pe_tup (pa_cons (pv 1) (pa_cons (pv 2) pa_nil))) pe_non)))), ?_⟩
  refine (?_ : Run none H _ _ ([some (pQ K n (t * t)), none, none] : Ga)) _ H (Same.refl H) (fits0 hp trivial rfl)
  refine r_par (a_cons (e_int (e_isqrt (e_num (e_var rfl)) (by rw [n1]; exact Int.mul_nonneg tn tn) b1) s1) (a_cons (e_int (e_isqrt (e_den (e_var rfl)) (by omega) b2) s2) a_nil))
    (r_done (e_ifT (t_and (b := true) (c := true) (t_of (e_bl (e_eq rfl (e_mul c1 c1 (by omega) (e_var rfl) (e_var rfl)) (e_num (e_var rfl))) (decide_eq_true (by rw [n1])))) fun _ => t_of (e_bl (e_eq rfl (e_mul (denI c2) (denI c2) (by omega) (e_var rfl) (e_var rfl)) (e_den (e_var rfl))) (decide_eq_true (by rw [n2])))) (f_q (e_tup (K := K) (a_cons (e_var rfl) (a_cons (e_var rfl) a_nil))) ⟨c1, c2⟩)) k)
/-! plain -/
def sp_plain (K : PySem.W.Frag) : Sp := fun vs H Q _ => ∃ (x : Rat) (m : Nat), (True) ∧ AllP [pQ K m x] vs H ∧ ∀ v H', Same H H' → (pT K [pQ K m x, pV (.int 0), pQ K 1 0] : Pd) v H' → Q v H'
theorem len_plain {vs : List V} {H : Hp} {Q : VK} {E : XK} (h : sp_plain K vs H Q E) : vs.length = 1 := by
  obtain ⟨_, _, _, pp, _⟩ := h
  exact AllP.len pp
theorem e_plain {l : Option Addr} {Γ : Ga} {t0 : TE} {x : Rat} {m : Nat}  (h0 : EvG l t0 Γ (pQ K m x)) : EvG l (tCall (sp_plain K) [] E0 (tCons t0 tNil)) Γ (pT K [pQ K m x, pV (.int 0), pQ K 1 0]) := e_call (fun _ _ _ pp kk => ⟨x, m, trivial, pp, kk⟩) (a_cons h0 a_nil)
theorem sc_plain : FnScope ["number"] ["number"] (defScope s_plain) := ⟨rfl, rfl, rfl, by decide +kernel, rfl, by decide +kernel, by decide +kernel⟩
theorem ok_plain (T : Txt K mg) : Fn P w K mg base 1 "plain" ["number"] (sp_plain K) := by
  refine fn_mk T 25 25 rfl rfl sc_plain (fun vs H Q E h => len_plain h) (fun _ _ _ _ _ _ us hl => match us, hl with | [_], _ => rfl) (fun f cdv A outer s H vs Q E hr h => ?_)
  obtain ⟨x, m, hc, hp, k⟩ := h
  refine ⟨_, (pss_one (ps_ret (pe_tup (pa_cons (pv 0) (pa_cons pe_int (pa_cons (pe_glob (v := .ref (He.ga K "ZERO")) rfl (T.glo 84 rfl) rfl) pa_nil)))))), ?_⟩
  refine (?_ : Run none H _ _ ([some (pQ K m x)] : Ga)) _ H (Same.refl H) (fits0 hp trivial rfl)
  exact r_done (e_tup (K := K) (a_cons (e_var rfl) (a_cons e_c (a_cons (gl_ZERO T) a_nil)))) k
/-! surd_from -/
def sp_surd_from (K : PySem.W.Frag) : Sp := fun vs H Q _ => ∃ (x y z t : Rat) (m n o : Nat), (0 ≤ t ∧ y * y * z = t * t ∧ m + ((n + n) + o) + 1 ≤ 13500) ∧ AllP [pQ K m x, pQ K n y, pQ K o z] vs H ∧ ∀ v H', Same H H' → (pT K [pQ K (m + ((n + n) + o) + 1) (x + (sg y : Rat) * t), pV (.int 0), pQ K 1 0] : Pd) v H' → Q v H'
theorem len_surd_from {vs : List V} {H : Hp} {Q : VK} {E : XK} (h : sp_surd_from K vs H Q E) : vs.length = 3 := by
  obtain ⟨_, _, _, _, _, _, _, _, pp, _⟩ := h
  exact AllP.len pp
theorem e_surd_from {l : Option Addr} {Γ : Ga} {t0 t1 t2 : TE} {x y z t : Rat} {m n o : Nat}  (h0 : EvG l t0 Γ (pQ K m x)) (h1 : EvG l t1 Γ (pQ K n y)) (h2 : EvG l t2 Γ (pQ K o z)) (hc : 0 ≤ t ∧ y * y * z = t * t ∧ m + ((n + n) + o) + 1 ≤ 13500) : EvG l (tCall (sp_surd_from K) [] E0 (tCons t0 (tCons t1 (tCons t2 tNil)))) Γ (pT K [pQ K (m + ((n + n) + o) + 1) (x + (sg y : Rat) * t), pV (.int 0), pQ K 1 0]) := e_call (fun _ _ _ pp kk => ⟨x, y, z, t, m, n, o, hc, pp, kk⟩) (a_cons h0 (a_cons h1 (a_cons h2 a_nil)))
theorem sc_surd_from : FnScope ["part", "factor", "square", "whole", "root", "way"] ["part", "factor", "square"] (defScope s_surd_from) := ⟨rfl, rfl, rfl, by decide +kernel, rfl, by decide +kernel, by decide +kernel⟩
theorem ok_surd_from (T : Txt K mg) : Fn P w K mg base 4 "surd_from" ["part", "factor", "square"] (sp_surd_from K) := by
  refine fn_mk T 26 26 rfl rfl sc_surd_from (fun vs H Q E h => len_surd_from h) (fun _ _ _ _ _ _ us hl => match us, hl with | [_, _, _], _ => rfl) (fun f cdv A outer s H vs Q E hr h => ?_)
  obtain ⟨x, y, z, t, m, n, o, hc, hp, k⟩ := h
  obtain ⟨t0, et, hm⟩ := hc
  obtain ⟨n1, n2⟩ := sg_nd t0 et
  refine ⟨_, (pss_cons (ps_set (i := 3) sc_surd_from.nd rfl (Or.inl rfl) (pe_fn (ok_ratio_product T) (hr.mono (by decide)) (pa_cons (pe_fn (ok_ratio_product T) (hr.mono (by decide)) (pa_cons (pv 1) (pa_cons (pv 1) pa_nil))) (pa_cons (pv 2) pa_nil))))
      (pss_cons (ps_par (i := 4) (j := 5) rfl sc_surd_from.nd rfl rfl (by decide) rfl rfl (pa_cons (pe_fn (ok_square_root T) (hr.mono (by decide)) (pa_cons (pv 3) pa_nil)) (pa_cons (pe_fn (ok_sign_of T) (hr.mono (by decide)) (pa_cons (pe_ix ix_tup (pv 1) pe_int (fun _ _ => rfl)) pa_nil)) pa_nil)) (by rfl))
      (pss_cons (ps_if (pt_cmpR op_isN (pv 4) pe_non (nomark _)) (pss_one (ps_ret (pe_tup (pa_cons (pv 0) (pa_cons (pv 5) (pa_cons (pv 3) pa_nil)))))) pss_nil)
      (pss_one (ps_ret (pe_fn (ok_plain T) (hr.mono (by decide)) (pa_cons (pe_fn (ok_ratio_sum T) (hr.mono (by decide)) (pa_cons (pv 0) (pa_cons (pe_tup (pa_cons (pe_op op_mulX (pv 5) (pe_ix ix_tup (pv 4) pe_int (fun _ _ => rfl))) (pa_cons (pe_ix ix_tup (pv 4) pe_int (fun _ _ => rfl)) pa_nil))) pa_nil))) pa_nil))))))), ?_⟩
  refine (?_ : Run none H _ _ ([some (pQ K m x), some (pQ K n y), some (pQ K o z), none, none, none] : Ga)) _ H (Same.refl H) (fits0 hp trivial rfl)
  refine r_set (q_is (e_ratio_product (e_ratio_product (e_var rfl) (e_var rfl) (by omega)) (e_var rfl) (by omega)) et) (r_par (a_cons (e_square_root (e_var rfl) ⟨t0, by omega⟩) (a_cons (e_sign_of (K := K) (e_num (e_var rfl))) a_nil))
    (r_if (b := false) (t_of (e_isN' q_ref (e_var rfl))) (fun z => by cases z) fun _ => r_next0 ?_))
  refine r_getQ (i := 4) rfl fun bt => ?_
  have bs : Bd ((n + n) + o) ((sg y : Rat) * t) := ⟨by
    rw [n1, Int.natAbs_mul]
    have h1 := sg_abs y
    have h2 := bt.1
    have h3 : (sg y).natAbs * t.num.natAbs ≤ 1 * t.num.natAbs := Nat.mul_le_mul_right _ (by omega)
    omega, by rw [n2]; exact bt.2⟩
  refine r_done (e_plain (e_ratio_sum (e_var rfl) (f_q (e_to (e_tup (K := K) (a_cons (e_mul (sg_abs y) bt.1 (by omega) (e_var rfl) (e_num (e_var rfl))) (a_cons (e_den (e_var rfl)) a_nil))) ?_) bs) (by omega))) k
  unfold pF
  rw [n1, n2]
  rfl
/-! compared -/
def sp_compared (K : PySem.W.Frag) : Sp := fun vs H Q _ => ∃ (x : Rat) (m : Nat), (m ≤ 13500) ∧ AllP [pT K [pQ K m x, pV (.int 0), pQ K 1 0], pT K [pQ K 1 0, pV (.int 0), pQ K 1 0]] vs H ∧ ∀ v H', Same H H' → (pV (.int (sg x)) : Pd) v H' → Q v H'
theorem len_compared {vs : List V} {H : Hp} {Q : VK} {E : XK} (h : sp_compared K vs H Q E) : vs.length = 2 := by
  obtain ⟨_, _, _, pp, _⟩ := h
  exact AllP.len pp
theorem e_compared {l : Option Addr} {Γ : Ga} {t0 t1 : TE} {x : Rat} {m : Nat}  (h0 : EvG l t0 Γ (pT K [pQ K m x, pV (.int 0), pQ K 1 0])) (h1 : EvG l t1 Γ (pT K [pQ K 1 0, pV (.int 0), pQ K 1 0])) (hc : m ≤ 13500) : EvG l (tCall (sp_compared K) [] E0 (tCons t0 (tCons t1 tNil))) Γ (pV (.int (sg x))) := e_call (fun _ _ _ pp kk => ⟨x, m, hc, pp, kk⟩) (a_cons h0 (a_cons h1 a_nil))
theorem sc_compared : FnScope ["one", "two", "p", "q", "e", "r", "s", "k", "m", "f", "u", "v"] ["one", "two"] (defScope s_compared) := ⟨rfl, rfl, rfl, by decide +kernel, rfl, by decide +kernel, by decide +kernel⟩
theorem ok_compared (T : Txt K mg) : Fn P w K mg base 2 "compared" ["one", "two"] (sp_compared K) := by
  refine fn_mk T 27 27 rfl rfl sc_compared (fun vs H Q E h => len_compared h) (fun _ _ _ _ _ _ us hl => match us, hl with | [_, _], _ => rfl) (fun f cdv A outer s H vs Q E hr h => ?_)
  obtain ⟨x, m, hc, hp, k⟩ := h
  refine ⟨_, (pss_cons (ps_asg (pv 0) (pg_tup rfl (pgs_cons (pg_tup rfl (pgs_cons (pg_name (i := 2) sc_compared.nd rfl (by first | exact Or.inl rfl | exact Or.inr rfl)) (pgs_cons (pg_name (i := 3) sc_compared.nd rfl (by first | exact Or.inl rfl | exact Or.inr rfl)) pgs_nil))) (pgs_cons (pg_name (i := 4) sc_compared.nd rfl (by first | exact Or.inl rfl | exact Or.inr rfl)) (pgs_cons (pg_tup rfl (pgs_cons (pg_name (i := 5) sc_compared.nd rfl (by first | exact Or.inl rfl | exact Or.inr rfl)) (pgs_cons (pg_name (i := 6) sc_compared.nd rfl (by first | exact Or.inl rfl | exact Or.inr rfl)) pgs_nil))) pgs_nil)))))
      (pss_cons (ps_asg (pv 1) (pg_tup rfl (pgs_cons (pg_tup rfl (pgs_cons (pg_name (i := 7) sc_compared.nd rfl (by first | exact Or.inl rfl | exact Or.inr rfl)) (pgs_cons (pg_name (i := 8) sc_compared.nd rfl (by first | exact Or.inl rfl | exact Or.inr rfl)) pgs_nil))) (pgs_cons (pg_name (i := 9) sc_compared.nd rfl (by first | exact Or.inl rfl | exact Or.inr rfl)) (pgs_cons (pg_tup rfl (pgs_cons (pg_name (i := 10) sc_compared.nd rfl (by first | exact Or.inl rfl | exact Or.inr rfl)) (pgs_cons (pg_name (i := 11) sc_compared.nd rfl (by first | exact Or.inl rfl | exact Or.inr rfl)) pgs_nil))) pgs_nil)))))
      (pss_cons (ps_if (PW.pt (pw_and (pt_cmpR op_eq (pv 4) pe_int (nomark _)) (pw_and1 (pt_cmpR op_eq (pv 9) pe_int (nomark _))))) (pss_one (ps_ret (pe_fn (ok_sign_of T) (hr.mono (by decide)) (pa_cons (pe_op op_sub (pe_op op_mulX (pv 2) (pv 8)) (pe_op op_mulX (pv 7) (pv 3))) pa_nil)))) pss_nil)
      (pss_one (ps_ret pe_dead))))), ?_⟩
  refine (?_ : Run none H _ _ ([some (pT K [pQ K m x, pV (.int 0), pQ K 1 0]), some (pT K [pQ K 1 0, pV (.int 0), pQ K 1 0]), none, none, none, none, none, none, none, none, none, none] : Ga)) _ H (Same.refl H) (fits0 hp trivial rfl)
  refine r_getT3 (i := 0) rfl fun bx => r_asg (e_var rfl) (g_tup rfl (gs_cons (g_q (gs_cons g_name (gs_cons g_name gs_nil))) (gs_cons g_name (gs_cons (g_q (gs_cons g_name (gs_cons g_name gs_nil))) gs_nil)))) (r_asg (e_var rfl) (g_tup rfl (gs_cons (g_q (gs_cons g_name (gs_cons g_name gs_nil))) (gs_cons g_name (gs_cons (g_q (gs_cons g_name (gs_cons g_name gs_nil))) gs_nil))))
    (r_if (b := true) (t_and (b := true) (c := true) (t_of (e_bl (e_eq rfl (e_var rfl) e_c) (decide_eq_true rfl))) fun _ => t_of (e_bl (e_eq rfl (e_var rfl) e_c) (decide_eq_true rfl))) (fun _ => ?_) fun z => by cases z))
  refine r_done (e_int (e_sign_of (K := K) (e_I0 (e_mul (a := m) (c := 1) bx.1 (by decide +kernel) (by omega) (e_var rfl) (e_var rfl)) (e_mul (a := 1) (c := m) (by decide +kernel) (denI bx.2) (by omega) (e_var rfl) (e_var rfl)))) ?_) k
  unfold sg
  rw [show (0 : Rat).num = 0 from rfl, show ((0 : Rat).den : Int) = 1 from rfl, Int.zero_mul, Int.mul_one, Int.sub_zero]
/-! surd_sign -/
def sp_surd_sign (K : PySem.W.Frag) : Sp := fun vs H Q _ => ∃ (x : Rat) (m : Nat), (m ≤ 13500) ∧ AllP [pT K [pQ K m x, pV (.int 0), pQ K 1 0]] vs H ∧ ∀ v H', Same H H' → (pV (.int (sg x)) : Pd) v H' → Q v H'
theorem len_surd_sign {vs : List V} {H : Hp} {Q : VK} {E : XK} (h : sp_surd_sign K vs H Q E) : vs.length = 1 := by
  obtain ⟨_, _, _, pp, _⟩ := h
  exact AllP.len pp
theorem e_surd_sign {l : Option Addr} {Γ : Ga} {t0 : TE} {x : Rat} {m : Nat}  (h0 : EvG l t0 Γ (pT K [pQ K m x, pV (.int 0), pQ K 1 0])) (hc : m ≤ 13500) : EvG l (tCall (sp_surd_sign K) [] E0 (tCons t0 tNil)) Γ (pV (.int (sg x))) := e_call (fun _ _ _ pp kk => ⟨x, m, hc, pp, kk⟩) (a_cons h0 a_nil)
theorem sc_surd_sign : FnScope ["surd"] ["surd"] (defScope s_surd_sign) := ⟨rfl, rfl, rfl, by decide +kernel, rfl, by decide +kernel, by decide +kernel⟩
theorem ok_surd_sign (T : Txt K mg) : Fn P w K mg base 3 "surd_sign" ["surd"] (sp_surd_sign K) := by
  refine fn_mk T 28 28 rfl rfl sc_surd_sign (fun vs H Q E h => len_surd_sign h) (fun _ _ _ _ _ _ us hl => match us, hl with | [_], _ => rfl) (fun f cdv A outer s H vs Q E hr h => ?_)
  obtain ⟨x, m, hc, hp, k⟩ := h
  refine ⟨_, (pss_one (ps_ret (pe_fn (ok_compared T) (hr.mono (by decide)) (pa_cons (pv 0) (pa_cons (pe_fn (ok_plain T) (hr.mono (by decide)) (pa_cons (pe_glob (v := .ref (He.ga K "ZERO")) rfl (T.glo 84 rfl) rfl) pa_nil)) pa_nil))))), ?_⟩
  refine (?_ : Run none H _ _ ([some (pT K [pQ K m x, pV (.int 0), pQ K 1 0])] : Ga)) _ H (Same.refl H) (fits0 hp trivial rfl)
  exact r_done (e_compared (e_var rfl) (e_plain (gl_ZERO T)) hc) k
end
end K30

/-! text: KProg -/
set_option Elab.async false
set_option linter.all false
set_option maxRecDepth 100000
set_option maxHeartbeats 4000000
namespace K30
open PySem PySem.Spec PyProof.Rows L2 K30M
section
variable {P : Program} {w : World} {K : PySem.W.Frag} {mg : Str → Option Value} {base : Heap}
/-! check_heading -/
def sp_check_heading (K : PySem.W.Frag) : Sp := fun vs H Q _ => ∃ (x y : Rat) (m n : Nat), (x * x + y * y = 1 ∧ (m + m) + (n + n) + 1 ≤ 13500) ∧ AllP [pT K [pQ K m x, pQ K n y]] vs H ∧ ∀ v H', Same H H' → (pV .non : Pd) v H' → Q v H'
theorem len_check_heading {vs : List V} {H : Hp} {Q : VK} {E : XK} (h : sp_check_heading K vs H Q E) : vs.length = 1 := by
  obtain ⟨_, _, _, _, _, pp, _⟩ := h
  exact AllP.len pp
theorem e_check_heading {l : Option Addr} {Γ : Ga} {t0 : TE} {x y : Rat} {m n : Nat}  (h0 : EvG l t0 Γ (pT K [pQ K m x, pQ K n y])) (hc : x * x + y * y = 1 ∧ (m + m) + (n + n) + 1 ≤ 13500) : EvG l (tCall (sp_check_heading K) [] E0 (tCons t0 tNil)) Γ (pV .non) := e_call (fun _ _ _ pp kk => ⟨x, y, m, n, hc, pp, kk⟩) (a_cons h0 a_nil)
theorem sc_check_heading : FnScope ["value"] ["value"] (defScope s_check_heading) := ⟨rfl, rfl, rfl, by decide +kernel, rfl, by decide +kernel, by decide +kernel⟩
theorem ok_check_heading (T : Txt K mg) : Fn P w K mg base 6 "check_heading" ["value"] (sp_check_heading K) := by
  refine fn_mk T 29 29 rfl rfl sc_check_heading (fun vs H Q E h => len_check_heading h) (fun _ _ _ _ _ _ us hl => match us, hl with | [_], _ => rfl) (fun f cdv A outer s H vs Q E hr h => ?_)
  obtain ⟨x, y, m, n, hc, hp, k⟩ := h
  refine ⟨_, (pss_one (ps_if (pt_not (pt_val (pe_fn (ok_is_unit T) (hr.mono (by decide)) (pa_cons (pv 0) pa_nil)))) (pss_one ps_never) pss_nil)), ?_⟩
  refine (?_ : Run none H _ _ ([some (pT K [pQ K m x, pQ K n y])] : Ga)) _ H (Same.refl H) (fits0 hp trivial rfl)
  exact r_ok (t_not (t_B (e_is_unit (e_var rfl) hc))) k
/-! check_course -/
def sp_check_course (K : PySem.W.Frag) : Sp := fun vs H Q _ => ∃ (a b : Int), (gcdI a b = 1) ∧ AllP [pT K [pV (.int a), pV (.int b)]] vs H ∧ ∀ v H', Same H H' → (pV .non : Pd) v H' → Q v H'
theorem len_check_course {vs : List V} {H : Hp} {Q : VK} {E : XK} (h : sp_check_course K vs H Q E) : vs.length = 1 := by
  obtain ⟨_, _, _, pp, _⟩ := h
  exact AllP.len pp
theorem e_check_course {l : Option Addr} {Γ : Ga} {t0 : TE} {a b : Int}  (h0 : EvG l t0 Γ (pT K [pV (.int a), pV (.int b)])) (hc : gcdI a b = 1) : EvG l (tCall (sp_check_course K) [] E0 (tCons t0 tNil)) Γ (pV .non) := e_call (fun _ _ _ pp kk => ⟨a, b, hc, pp, kk⟩) (a_cons h0 a_nil)
theorem sc_check_course : FnScope ["value"] ["value"] (defScope s_check_course) := ⟨rfl, rfl, rfl, by decide +kernel, rfl, by decide +kernel, by decide +kernel⟩
theorem ok_check_course (T : Txt K mg) : Fn P w K mg base 4 "check_course" ["value"] (sp_check_course K) := by
  refine fn_mk T 30 30 rfl rfl sc_check_course (fun vs H Q E h => len_check_course h) (fun _ _ _ _ _ _ us hl => match us, hl with | [_], _ => rfl) (fun f cdv A outer s H vs Q E hr h => ?_)
  obtain ⟨a, b, hc, hp, k⟩ := h
  refine ⟨_, (pss_one (ps_if (pt_not (pt_val (pe_fn (ok_is_way T) (hr.mono (by decide)) (pa_cons (pv 0) pa_nil)))) (pss_one ps_never) pss_nil)), ?_⟩
  refine (?_ : Run none H _ _ ([some (pT K [pV (.int a), pV (.int b)])] : Ga)) _ H (Same.refl H) (fits0 hp trivial rfl)
  exact r_ok (t_not (t_B (e_is_way (e_var rfl) hc))) k
/-- a five -/
abbrev pFive (K : PySem.W.Frag) (f : Fv) : Pd := pT K [pQ K 54 f.a, pQ K 54 f.b, pQ K 54 f.c, pQ K 54 f.d, pQ K 54 f.e]
abbrev pHd (K : PySem.W.Frag) (n : Nat) (c s : Rat) : Pd := pT K [pQ K n c, pQ K n s]
/-! check_five -/
def sp_check_five (K : PySem.W.Frag) : Sp := fun vs H Q _ => ∃ (f : Fv), (True) ∧ AllP [pFive K f] vs H ∧ ∀ v H', Same H H' → (pV .non : Pd) v H' → Q v H'
theorem len_check_five {vs : List V} {H : Hp} {Q : VK} {E : XK} (h : sp_check_five K vs H Q E) : vs.length = 1 := by
  obtain ⟨_, _, pp, _⟩ := h
  exact AllP.len pp
theorem e_check_five {l : Option Addr} {Γ : Ga} {t0 : TE} {f : Fv}  (h0 : EvG l t0 Γ (pFive K f)) : EvG l (tCall (sp_check_five K) [] E0 (tCons t0 tNil)) Γ (pV .non) := e_call (fun _ _ _ pp kk => ⟨f, trivial, pp, kk⟩) (a_cons h0 a_nil)
theorem sc_check_five : FnScope ["value"] ["value"] (defScope s_check_five) := ⟨rfl, rfl, rfl, by decide +kernel, rfl, by decide +kernel, by decide +kernel⟩
theorem ok_check_five (T : Txt K mg) : Fn P w K mg base 6 "check_five" ["value"] (sp_check_five K) := by
  refine fn_mk T 31 31 rfl rfl sc_check_five (fun vs H Q E h => len_check_five h) (fun _ _ _ _ _ _ us hl => match us, hl with | [_], _ => rfl) (fun f cdv A outer s H vs Q E hr h => ?_)
  obtain ⟨f, hc, hp, k⟩ := h
  refine ⟨_, (pss_one (ps_if (pt_not (pt_val (pe_fn (ok_is_fivefold T) (hr.mono (by decide)) (pa_cons (pv 0) pa_nil)))) (pss_one ps_never) pss_nil)), ?_⟩
  refine (?_ : Run none H _ _ ([some (pFive K f)] : Ga)) _ H (Same.refl H) (fits0 hp trivial rfl)
  exact r_ok (t_not (t_B (e_is_fivefold (e_var rfl)))) k
/-! ship_rows -/
def sp_ship_rows (K : PySem.W.Frag) : Sp := fun vs H Q _ => ∃ (g : Fv), (True) ∧ AllP [pFive K g] vs H ∧ ∀ v H', Same H H' → (pT K [pT K [pQ K 54 g.b, pQ K 56 (1 + g.d), pQ K 109 (g.a - g.e)], pT K [pQ K 54 g.c, pQ K 109 (g.a + g.e), pQ K 56 (g.d - 1)]] : Pd) v H' → Q v H'
theorem len_ship_rows {vs : List V} {H : Hp} {Q : VK} {E : XK} (h : sp_ship_rows K vs H Q E) : vs.length = 1 := by
  obtain ⟨_, _, pp, _⟩ := h
  exact AllP.len pp
theorem e_ship_rows {l : Option Addr} {Γ : Ga} {t0 : TE} {g : Fv}  (h0 : EvG l t0 Γ (pFive K g)) : EvG l (tCall (sp_ship_rows K) [] E0 (tCons t0 tNil)) Γ (pT K [pT K [pQ K 54 g.b, pQ K 56 (1 + g.d), pQ K 109 (g.a - g.e)], pT K [pQ K 54 g.c, pQ K 109 (g.a + g.e), pQ K 56 (g.d - 1)]]) := e_call (fun _ _ _ pp kk => ⟨g, trivial, pp, kk⟩) (a_cons h0 a_nil)
theorem sc_ship_rows : FnScope ["five", "a", "b", "c", "d", "e", "ahead"] ["five"] (defScope s_ship_rows) := ⟨rfl, rfl, rfl, by decide +kernel, rfl, by decide +kernel, by decide +kernel⟩
theorem ok_ship_rows (T : Txt K mg) : Fn P w K mg base 4 "ship_rows" ["five"] (sp_ship_rows K) := by
  refine fn_mk T 32 32 rfl rfl sc_ship_rows (fun vs H Q E h => len_ship_rows h) (fun _ _ _ _ _ _ us hl => match us, hl with | [_], _ => rfl) (fun f cdv A outer s H vs Q E hr h => ?_)
  obtain ⟨g, hc, hp, k⟩ := h
  refine ⟨_, (pss_cons (ps_asg (pv 0) (pg_tup rfl (pgs_cons (pg_name (i := 1) sc_ship_rows.nd rfl (by first | exact Or.inl rfl | exact Or.inr rfl)) (pgs_cons (pg_name (i := 2) sc_ship_rows.nd rfl (by first | exact Or.inl rfl | exact Or.inr rfl)) (pgs_cons (pg_name (i := 3) sc_ship_rows.nd rfl (by first | exact Or.inl rfl | exact Or.inr rfl)) (pgs_cons (pg_name (i := 4) sc_ship_rows.nd rfl (by first | exact Or.inl rfl | exact Or.inr rfl)) (pgs_cons (pg_name (i := 5) sc_ship_rows.nd rfl (by first | exact Or.inl rfl | exact Or.inr rfl)) pgs_nil)))))))
      (pss_cons (ps_set (i := 6) sc_ship_rows.nd rfl (Or.inl rfl) (pe_tup (pa_cons (pv 2) (pa_cons (pe_fn (ok_ratio_sum T) (hr.mono (by decide)) (pa_cons (pe_glob (v := .ref (He.ga K "ONE")) rfl (T.glo 85 rfl) rfl) (pa_cons (pv 4) pa_nil))) (pa_cons (pe_fn (ok_ratio_less T) (hr.mono (by decide)) (pa_cons (pv 1) (pa_cons (pv 5) pa_nil))) pa_nil)))))
      (pss_one (ps_ret (pe_tup (pa_cons (pv 6) (pa_cons (pe_tup (pa_cons (pv 3) (pa_cons (pe_fn (ok_ratio_sum T) (hr.mono (by decide)) (pa_cons (pv 1) (pa_cons (pv 5) pa_nil))) (pa_cons (pe_fn (ok_ratio_less T) (hr.mono (by decide)) (pa_cons (pv 4) (pa_cons (pe_glob (v := .ref (He.ga K "ONE")) rfl (T.glo 85 rfl) rfl) pa_nil))) pa_nil)))) pa_nil))))))), ?_⟩
  refine (?_ : Run none H _ _ ([some (pFive K g), none, none, none, none, none, none] : Ga)) _ H (Same.refl H) (fits0 hp trivial rfl)
  exact r_asg (e_var rfl) (g_tup rfl (gs_cons g_name (gs_cons g_name (gs_cons g_name (gs_cons g_name (gs_cons g_name gs_nil))))))
    (r_set (e_tup (K := K) (a_cons (e_var rfl) (a_cons (e_ratio_sum (gl_ONE T) (e_var rfl) (by omega)) (a_cons (e_ratio_less (e_var rfl) (e_var rfl) (by omega)) a_nil))))
    (r_done (e_tup (K := K) (a_cons (e_var rfl) (a_cons (e_tup (K := K) (a_cons (e_var rfl) (a_cons (e_ratio_sum (e_var rfl) (e_var rfl) (by omega)) (a_cons (e_ratio_less (e_var rfl) (gl_ONE T) (by omega)) a_nil)))) a_nil))) k))
/-! row_value -/
def sp_row_value (K : PySem.W.Frag) : Sp := fun vs H Q _ => ∃ (k1 l1 m1 c s : Rat) (m n o p q : Nat), (m + ((n + p) + (o + q) + 1) + 1 ≤ 13500) ∧ AllP [pT K [pQ K m k1, pQ K n l1, pQ K o m1], pT K [pQ K p c, pQ K q s]] vs H ∧ ∀ v H', Same H H' → (pQ K (m + ((n + p) + (o + q) + 1) + 1) (k1 + (l1 * c + m1 * s)) : Pd) v H' → Q v H'
theorem len_row_value {vs : List V} {H : Hp} {Q : VK} {E : XK} (h : sp_row_value K vs H Q E) : vs.length = 2 := by
  obtain ⟨_, _, _, _, _, _, _, _, _, _, _, pp, _⟩ := h
  exact AllP.len pp
theorem e_row_value {l : Option Addr} {Γ : Ga} {t0 t1 : TE} {k1 l1 m1 c s : Rat} {m n o p q : Nat}  (h0 : EvG l t0 Γ (pT K [pQ K m k1, pQ K n l1, pQ K o m1])) (h1 : EvG l t1 Γ (pT K [pQ K p c, pQ K q s])) (hc : m + ((n + p) + (o + q) + 1) + 1 ≤ 13500) : EvG l (tCall (sp_row_value K) [] E0 (tCons t0 (tCons t1 tNil))) Γ (pQ K (m + ((n + p) + (o + q) + 1) + 1) (k1 + (l1 * c + m1 * s))) := e_call (fun _ _ _ pp kk => ⟨k1, l1, m1, c, s, m, n, o, p, q, hc, pp, kk⟩) (a_cons h0 (a_cons h1 a_nil))
theorem sc_row_value : FnScope ["row", "heading"] ["row", "heading"] (defScope s_row_value) := ⟨rfl, rfl, rfl, by decide +kernel, rfl, by decide +kernel, by decide +kernel⟩
theorem ok_row_value (T : Txt K mg) : Fn P w K mg base 4 "row_value" ["row", "heading"] (sp_row_value K) := by
  refine fn_mk T 33 33 rfl rfl sc_row_value (fun vs H Q E h => len_row_value h) (fun _ _ _ _ _ _ us hl => match us, hl with | [_, _], _ => rfl) (fun f cdv A outer s H vs Q E hr h => ?_)
  obtain ⟨k1, l1, m1, c, s, m, n, o, p, q, hc, hp, k⟩ := h
  refine ⟨_, (pss_one (ps_ret (pe_fn (ok_ratio_sum T) (hr.mono (by decide)) (pa_cons (pe_ix ix_tup (pv 0) pe_int (fun _ _ => rfl)) (pa_cons (pe_fn (ok_ratio_sum T) (hr.mono (by decide)) (pa_cons (pe_fn (ok_ratio_product T) (hr.mono (by decide)) (pa_cons (pe_ix ix_tup (pv 0) pe_int (fun _ _ => rfl)) (pa_cons (pe_ix ix_tup (pv 1) pe_int (fun _ _ => rfl)) pa_nil))) (pa_cons (pe_fn (ok_ratio_product T) (hr.mono (by decide)) (pa_cons (pe_ix ix_tup (pv 0) pe_int (fun _ _ => rfl)) (pa_cons (pe_ix ix_tup (pv 1) pe_int (fun _ _ => rfl)) pa_nil))) pa_nil))) pa_nil))))), ?_⟩
  refine (?_ : Run none H _ _ ([some (pT K [pQ K m k1, pQ K n l1, pQ K o m1]), some (pT K [pQ K p c, pQ K q s])] : Ga)) _ H (Same.refl H) (fits0 hp trivial rfl)
  exact r_done (e_ratio_sum (e_at 0 (e_var rfl) rfl) (e_ratio_sum (e_ratio_product (e_at 1 (e_var rfl) rfl) (e_at 0 (e_var rfl) rfl) (by omega)) (e_ratio_product (e_at 2 (e_var rfl) rfl) (e_at 1 (e_var rfl) rfl) (by omega)) (by omega)) (by omega)) k
theorem num_W (f : Fv) : (1 * 1 + f.a * f.a) - (f.d * f.d + f.e * f.e) = f.W := by
  unfold Fv.W
  grind
theorem num_T1 (f : Fv) : (1 * f.b - -f.a * f.c) - (f.d * f.b - f.e * -f.c) = f.T1 := by
  unfold Fv.T1
  grind
theorem num_T2 (f : Fv) : (1 * f.c + -f.a * f.b) - (f.d * -f.c + f.e * f.b) = f.T2 := by
  unfold Fv.T2
  grind
theorem num_T (K : PySem.W.Frag) (f : Fv) (m n : Nat) : pT K [pQ K m ((1 * f.b - -f.a * f.c) - (f.d * f.b - f.e * -f.c)), pQ K n ((1 * f.c + -f.a * f.b) - (f.d * -f.c + f.e * f.b))] = pT K [pQ K m f.T1, pQ K n f.T2] := by
  rw [num_T1, num_T2]
/-! numbers_of -/
def sp_numbers_of (K : PySem.W.Frag) : Sp := fun vs H Q _ => ∃ (g : Fv), (True) ∧ AllP [pFive K g] vs H ∧ ∀ v H', Same H H' → (pT K [pQ K 329 g.W, pQ K 382 g.T1, pQ K 382 g.T2] : Pd) v H' → Q v H'
theorem len_numbers_of {vs : List V} {H : Hp} {Q : VK} {E : XK} (h : sp_numbers_of K vs H Q E) : vs.length = 1 := by
  obtain ⟨_, _, pp, _⟩ := h
  exact AllP.len pp
theorem e_numbers_of {l : Option Addr} {Γ : Ga} {t0 : TE} {g : Fv}  (h0 : EvG l t0 Γ (pFive K g)) : EvG l (tCall (sp_numbers_of K) [] E0 (tCons t0 tNil)) Γ (pT K [pQ K 329 g.W, pQ K 382 g.T1, pQ K 382 g.T2]) := e_call (fun _ _ _ pp kk => ⟨g, trivial, pp, kk⟩) (a_cons h0 a_nil)
theorem sc_numbers_of : FnScope ["five", "first", "middle", "last", "whole", "turn"] ["five"] (defScope s_numbers_of) := ⟨rfl, rfl, rfl, by decide +kernel, rfl, by decide +kernel, by decide +kernel⟩
theorem ok_numbers_of (T : Txt K mg) : Fn P w K mg base 5 "numbers_of" ["five"] (sp_numbers_of K) := by
  refine fn_mk T 34 34 rfl rfl sc_numbers_of (fun vs H Q E h => len_numbers_of h) (fun _ _ _ _ _ _ us hl => match us, hl with | [_], _ => rfl) (fun f cdv A outer s H vs Q E hr h => ?_)
  obtain ⟨g, hc, hp, k⟩ := h
  refine ⟨_, (pss_cons (ps_par3 (i := 1) (j := 2) (l := 3) rfl sc_numbers_of.nd rfl rfl rfl (by decide) (by decide) (by decide) rfl rfl rfl (pa_cons (pe_tup (pa_cons (pe_glob (v := .ref (He.ga K "ONE")) rfl (T.glo 85 rfl) rfl) (pa_cons (pe_ix ix_tup (pv 0) pe_int (fun _ _ => rfl)) pa_nil))) (pa_cons (pe_tup (pa_cons (pe_ix ix_tup (pv 0) pe_int (fun _ _ => rfl)) (pa_cons (pe_ix ix_tup (pv 0) pe_int (fun _ _ => rfl)) pa_nil))) (pa_cons (pe_tup (pa_cons (pe_ix ix_tup (pv 0) pe_int (fun _ _ => rfl)) (pa_cons (pe_ix ix_tup (pv 0) pe_int (fun _ _ => rfl)) pa_nil))) pa_nil))) (by rfl))
      (pss_cons (ps_set (i := 4) sc_numbers_of.nd rfl (Or.inl rfl) (pe_fn (ok_ratio_less T) (hr.mono (by decide)) (pa_cons (pe_fn (ok_square_length T) (hr.mono (by decide)) (pa_cons (pv 1) pa_nil)) (pa_cons (pe_fn (ok_square_length T) (hr.mono (by decide)) (pa_cons (pv 3) pa_nil)) pa_nil))))
      (pss_cons (ps_set (i := 5) sc_numbers_of.nd rfl (Or.inl rfl) (pe_fn (ok_gauss_less T) (hr.mono (by decide)) (pa_cons (pe_fn (ok_gauss_product T) (hr.mono (by decide)) (pa_cons (pe_fn (ok_conjugate T) (hr.mono (by decide)) (pa_cons (pv 1) pa_nil)) (pa_cons (pv 2) pa_nil))) (pa_cons (pe_fn (ok_gauss_product T) (hr.mono (by decide)) (pa_cons (pv 3) (pa_cons (pe_fn (ok_conjugate T) (hr.mono (by decide)) (pa_cons (pv 2) pa_nil)) pa_nil))) pa_nil))))
      (pss_one (ps_ret (pe_tup (pa_cons (pv 4) (pa_cons (pe_ix ix_tup (pv 5) pe_int (fun _ _ => rfl)) (pa_cons (pe_ix ix_tup (pv 5) pe_int (fun _ _ => rfl)) pa_nil))))))))), ?_⟩
  refine (?_ : Run none H _ _ ([some (pFive K g), none, none, none, none, none] : Ga)) _ H (Same.refl H) (fits0 hp trivial rfl)
  exact r_par3 (a_cons (e_tup (K := K) (a_cons (gl_ONE T) (a_cons (e_at 0 (e_var rfl) rfl) a_nil))) (a_cons (e_tup (K := K) (a_cons (e_at 1 (e_var rfl) rfl) (a_cons (e_at 2 (e_var rfl) rfl) a_nil))) (a_cons (e_tup (K := K) (a_cons (e_at 3 (e_var rfl) rfl) (a_cons (e_at 4 (e_var rfl) rfl) a_nil))) a_nil)))
    (r_set (q_is (e_ratio_less (e_square_length (e_var rfl) (by omega)) (e_square_length (e_var rfl) (by omega)) (by omega)) (num_W g))
    (r_set (e_to (e_gauss_less (e_gauss_product (e_conjugate (e_var rfl)) (e_var rfl) (by omega)) (e_gauss_product (e_var rfl) (e_conjugate (e_var rfl)) (by omega)) (by omega)) (num_T K g _ _))
    (r_done (e_tup (K := K) (a_cons (e_var rfl) (a_cons (e_at 0 (e_var rfl) rfl) (a_cons (e_at 1 (e_var rfl) rfl) a_nil)))) k)))
theorem dp_3 {m n o : Nat} {x y z : Rat} : ∀ v H, pT K [pQ K m x, pQ K n y, pQ K o z] v H → Dp K H v (.tuple [dF x, dF y, dF z]) := fun v H ⟨a, vs, e, s, p⟩ => by
  obtain ⟨u, w, t, rfl, p1, p2, p3⟩ := AllP.three p
  subst e
  exact .tup s (.cons (dp_q _ _ p1) (.cons (dp_q _ _ p2) (.cons (dp_q _ _ p3) .nil)))
theorem eqv_3 (x y z u v w : Rat) : PyData.eqv (.tuple [dF x, dF y, dF z]) (.tuple [dF u, dF v, dF w]) = (decide (x = u) && (decide (y = v) && decide (z = w))) := by
  have : PyData.eqv (.tuple [dF x, dF y, dF z]) (.tuple [dF u, dF v, dF w]) = (PyData.eqv (dF x) (dF u) && (PyData.eqv (dF y) (dF v) && (PyData.eqv (dF z) (dF w) && true))) := by
    simp only [PyData.eqv, PyData.eqvAll]
  rw [this, dF_eqv, dF_eqv, dF_eqv, Bool.and_true]
/-! is_straight -/
def sp_is_straight (K : PySem.W.Frag) : Sp := fun vs H Q _ => ∃ (x y z : Rat) (m n o : Nat), (True) ∧ AllP [pT K [pQ K m x, pQ K n y, pQ K o z]] vs H ∧ ∀ v H', Same H H' → (pV (.bl (decide (x = 0) && (decide (y = 0) && decide (z = 0)))) : Pd) v H' → Q v H'
theorem len_is_straight {vs : List V} {H : Hp} {Q : VK} {E : XK} (h : sp_is_straight K vs H Q E) : vs.length = 1 := by
  obtain ⟨_, _, _, _, _, _, _, pp, _⟩ := h
  exact AllP.len pp
theorem e_is_straight {l : Option Addr} {Γ : Ga} {t0 : TE} {x y z : Rat} {m n o : Nat}  (h0 : EvG l t0 Γ (pT K [pQ K m x, pQ K n y, pQ K o z])) : EvG l (tCall (sp_is_straight K) [] E0 (tCons t0 tNil)) Γ (pV (.bl (decide (x = 0) && (decide (y = 0) && decide (z = 0))))) := e_call (fun _ _ _ pp kk => ⟨x, y, z, m, n, o, trivial, pp, kk⟩) (a_cons h0 a_nil)
theorem sc_is_straight : FnScope ["numbers"] ["numbers"] (defScope s_is_straight) := ⟨rfl, rfl, rfl, by decide +kernel, rfl, by decide +kernel, by decide +kernel⟩
theorem ok_is_straight (T : Txt K mg) : Fn P w K mg base 1 "is_straight" ["numbers"] (sp_is_straight K) := by
  refine fn_mk T 35 35 rfl rfl sc_is_straight (fun vs H Q E h => len_is_straight h) (fun _ _ _ _ _ _ us hl => match us, hl with | [_], _ => rfl) (fun f cdv A outer s H vs Q E hr h => ?_)
  obtain ⟨x, y, z, m, n, o, hc, hp, k⟩ := h
  refine ⟨_, (pss_one (ps_ret (pe_cmpR (op_eqD hr.units) (pv 0) (pe_tup (pa_cons (pe_glob (v := .ref (He.ga K "ZERO")) rfl (T.glo 84 rfl) rfl) (pa_cons (pe_glob (v := .ref (He.ga K "ZERO")) rfl (T.glo 84 rfl) rfl) (pa_cons (pe_glob (v := .ref (He.ga K "ZERO")) rfl (T.glo 84 rfl) rfl) pa_nil)))) (nomark _)))), ?_⟩
  refine (?_ : Run none H _ _ ([some (pT K [pQ K m x, pQ K n y, pQ K o z])] : Ga)) _ H (Same.refl H) (fits0 hp trivial rfl)
  exact r_done (e_bl (e_eqD dp_3 dp_3 rfl rfl (e_var rfl) (e_tup (K := K) (a_cons (gl_ZERO T) (a_cons (gl_ZERO T) (a_cons (gl_ZERO T) a_nil))))) (eqv_3 x y z 0 0 0)) k
/-- a word: told as round or backward just so -/
def WordOk (f : Fv) (s : Str) : Prop := inV (.str s) [.str "round", .str "backward"] = decide (f.N < f.W * f.W)
abbrev pWord (f : Fv) : Pd := pX (WordOk f) fun s => pV (.str s)
theorem flat_dec (f : Fv) : (decide (f.W = 0) && (decide (f.T1 = 0) && decide (f.T2 = 0))) = decide f.flat := by
  unfold Fv.flat
  by_cases h1 : f.W = 0 <;> by_cases h2 : f.T1 = 0 <;> by_cases h3 : f.T2 = 0 <;> simp [h1, h2, h3]
theorem flat_not {f : Fv} (h : f.flat) : ¬ f.N < f.W * f.W := by
  unfold Fv.N
  rw [h.1, h.2.1, h.2.2]
  grind
theorem e_word {l : Option Addr} {Γ : Ga} {te : TE} {f : Fv} {s : Str} (h : EvG l te Γ (pV (.str s))) (e : inV (.str s) [.str "round", .str "backward"] = decide (f.N < f.W * f.W)) : EvG l te Γ (pWord f) := h.imp fun v H p => ⟨s, e, p⟩
/-! word_for -/
def sp_word_for (K : PySem.W.Frag) : Sp := fun vs H Q _ => ∃ (g : Fv), (True) ∧ AllP [pFive K g] vs H ∧ ∀ v H', Same H H' → (pWord g : Pd) v H' → Q v H'
theorem len_word_for {vs : List V} {H : Hp} {Q : VK} {E : XK} (h : sp_word_for K vs H Q E) : vs.length = 1 := by
  obtain ⟨_, _, pp, _⟩ := h
  exact AllP.len pp
theorem e_word_for {l : Option Addr} {Γ : Ga} {t0 : TE} {g : Fv}  (h0 : EvG l t0 Γ (pFive K g)) : EvG l (tCall (sp_word_for K) [] E0 (tCons t0 tNil)) Γ (pWord g) := e_call (fun _ _ _ pp kk => ⟨g, trivial, pp, kk⟩) (a_cons h0 a_nil)
theorem sc_word_for : FnScope ["five", "numbers", "reach", "square", "turn"] ["five"] (defScope s_word_for) := ⟨rfl, rfl, rfl, by decide +kernel, rfl, by decide +kernel, by decide +kernel⟩
theorem ok_word_for (T : Txt K mg) : Fn P w K mg base 6 "word_for" ["five"] (sp_word_for K) := by
  refine fn_mk T 36 36 rfl rfl sc_word_for (fun vs H Q E h => len_word_for h) (fun _ _ _ _ _ _ us hl => match us, hl with | [_], _ => rfl) (fun f cdv A outer s H vs Q E hr h => ?_)
  obtain ⟨g, hc, hp, k⟩ := h
  refine ⟨_, (pss_cons (ps_set (i := 1) sc_word_for.nd rfl (Or.inl rfl) (pe_fn (ok_numbers_of T) (hr.mono (by decide)) (pa_cons (pv 0) pa_nil)))
      (pss_cons (ps_if (pt_val (pe_fn (ok_is_straight T) (hr.mono (by decide)) (pa_cons (pv 1) pa_nil))) (pss_cons (ps_set (i := 2) sc_word_for.nd rfl (Or.inl rfl) (pe_fn (ok_ratio_product T) (hr.mono (by decide)) (pa_cons (pe_glob (v := .ref (He.ga K "FOUR")) rfl (T.glo 86 rfl) rfl) (pa_cons (pe_fn (ok_square_length T) (hr.mono (by decide)) (pa_cons (pe_tup (pa_cons (pe_glob (v := .ref (He.ga K "ONE")) rfl (T.glo 85 rfl) rfl) (pa_cons (pe_ix ix_tup (pv 0) pe_int (fun _ _ => rfl)) pa_nil))) pa_nil)) pa_nil))))
      (pss_one (ps_ret (pe_ifExp (pt_val (pe_fn (ok_is_lower T) (hr.mono (by decide)) (pa_cons (pv 2) (pa_cons (pe_fn (ok_square_length T) (hr.mono (by decide)) (pa_cons (pe_tup (pa_cons (pe_ix ix_tup (pv 0) pe_int (fun _ _ => rfl)) (pa_cons (pe_ix ix_tup (pv 0) pe_int (fun _ _ => rfl)) pa_nil))) pa_nil)) pa_nil)))) pe_str pe_str)))) pss_nil)
      (pss_cons (ps_par (i := 3) (j := 4) rfl sc_word_for.nd rfl rfl (by decide) rfl rfl (pa_cons (pe_fn (ok_ratio_product T) (hr.mono (by decide)) (pa_cons (pe_ix ix_tup (pv 1) pe_int (fun _ _ => rfl)) (pa_cons (pe_ix ix_tup (pv 1) pe_int (fun _ _ => rfl)) pa_nil))) (pa_cons (pe_fn (ok_square_length T) (hr.mono (by decide)) (pa_cons (pe_slice sl_tup (pv 1) (po_some pe_int) po_none) pa_nil)) pa_nil)) (by rfl))
      (pss_cons (ps_if (pt_val (pe_fn (ok_is_lower T) (hr.mono (by decide)) (pa_cons (pv 3) (pa_cons (pv 4) pa_nil)))) (pss_one (ps_ret pe_str)) pss_nil)
      (pss_cons (ps_if (pt_cmpR (op_eqD hr.units) (pv 3) (pv 4) (nomark _)) (pss_one (ps_ret pe_str)) pss_nil)
      (pss_one (ps_ret (pe_ifExp (pt_cmpR op_gt (pe_ix ix_tup (pe_ix ix_tup (pv 1) pe_int (fun _ _ => rfl)) pe_int (fun _ _ => rfl)) pe_int (nomark _)) pe_str pe_str)))))))), ?_⟩
  refine (?_ : Run none H _ _ ([some (pFive K g), none, none, none, none] : Ga)) _ H (Same.refl H) (fits0 hp trivial rfl)
  refine r_set (e_numbers_of (e_var rfl)) (r_if (e_t (e_is_straight (e_var rfl)) (flat_dec g)) (fun hb => ?_) (fun hb => ?_))
  · have fl := of_decide_eq_true hb
    have nn := flat_not fl
    refine r_set (e_ratio_product (gl_FOUR T) (e_square_length (e_tup (K := K) (a_cons (gl_ONE T) (a_cons (e_at 0 (e_var rfl) rfl) a_nil))) (by omega)) (by omega))
      (r_done (e_if (t_B (e_is_lower (e_var rfl) (e_square_length (e_tup (K := K) (a_cons (e_at 1 (e_var rfl) rfl) (a_cons (e_at 2 (e_var rfl) rfl) a_nil))) (by omega)) (by omega))) (fun _ => e_word e_c ?_) (fun _ => e_word e_c ?_)) k)
    · rw [decide_eq_false nn]
      decide +kernel
    · rw [decide_eq_false nn]
      decide +kernel
  · have fl := of_decide_eq_false hb
    refine r_next0 (r_par (a_cons (e_ratio_product (e_at 0 (e_var rfl) rfl) (e_at 0 (e_var rfl) rfl) (by omega)) (a_cons (e_square_length (e_sl1 (e_var rfl)) (by omega)) a_nil)) ?_)
    refine r_if (t_B (e_is_lower (e_var rfl) (e_var rfl) (by omega))) (fun hb => ?_) (fun hb => ?_)
    · have h := of_decide_eq_true hb
      refine r_done (e_word e_c ?_) k
      rw [decide_eq_false (show ¬ g.N < g.W * g.W by unfold Fv.N; grind)]
      decide +kernel
    · have h := of_decide_eq_false hb
      refine r_next0 (r_if (t_of (e_eqQ (e_var rfl) (e_var rfl))) (fun hb => ?_) (fun hb => ?_))
      · have h := of_decide_eq_true hb
        refine r_done (e_word e_c ?_) k
        rw [decide_eq_false (show ¬ g.N < g.W * g.W by unfold Fv.N; grind)]
        decide +kernel
      · have h2 := of_decide_eq_false hb
        refine r_next0 (r_done (e_if (t_of (e_I0 (e_num (e_at 0 (e_var rfl) rfl)) e_c)) (fun _ => e_word e_c ?_) (fun _ => e_word e_c ?_)) k)
        · rw [decide_eq_true (show g.N < g.W * g.W by unfold Fv.N; grind)]
          decide +kernel
        · rw [decide_eq_true (show g.N < g.W * g.W by unfold Fv.N; grind)]
          decide +kernel
end
end K30

/-! text: KZip -/
set_option Elab.async false
set_option linter.all false
set_option maxRecDepth 100000
set_option maxHeartbeats 4000000
/-! own layer, fourth part: a zip object held by a name and walked later -/
namespace K30
open PySem PySem.Spec PyProof.Rows L2 RZ
/-- the objects of a walk, tracked as they stand in h -/
def trkE (H : Hp) (h : Heap) (fp : List Addr) : Hp := fun b => if b ∈ fp then (h.get? b).map fun o => HO.ext fun g => g.get? b = some o else H b
def drpE (H : Hp) (fp : List Addr) : Hp := fun b => if b ∈ fp then none else H b
section
variable {X : Cx} {pins : List (Addr × Obj)} {σ : L2.St} {H : Hp} {s : Shared} {h' : Heap} {fp : List Addr}
theorem inv_trk (I : Inv X pins σ H s) (k : ∀ b o, s.heap.get? b = some o → h'.get? b = some o) (new : ∀ b ∈ fp, s.heap.objs.size ≤ b) (there : ∀ b ∈ fp, ∃ o, h'.get? b = some o) : Inv X pins σ (trkE H h' fp) { s with heap := h' } := by
  have out : ∀ b o, s.heap.get? b = some o → b ∉ fp := fun b o e z => absurd (Nat.lt_of_lt_of_le (Heap.lt_size e) (new b z)) (Nat.lt_irrefl _)
  have outH : ∀ b o, H b = some o → b ∉ fp := fun b o e z => by
    have := I.hok.fresh (new b z)
    rw [this] at e
    cases e
  have same : ∀ b o, H b = some o → trkE H h' fp b = some o := fun b o e => by
    unfold trkE
    rw [if_neg (outH b o e)]
    exact e
  have u : Un X.fs [] H (trkE H h' fp) s.heap h' := ⟨fun b o e _ _ _ => k b o e, fun b o e _ _ _ => ⟨o.slots, k b o e⟩, fun b o e n _ => by
    unfold trkE
    rw [if_neg (out b o e)]
    exact n, fun b o e _ => ⟨o, k b o e⟩, fun b xs e => same b _ e, fun b o x e => same b _ e, fun b ps e => ⟨#[], by rw [same b _ e]; simp⟩⟩
  have ok : HOk X.prog X.w (trkE H h' fp) h' := fun b o e => by
    by_cases hb : b ∈ fp
    · obtain ⟨ob, eo⟩ := there b hb
      have e2 : trkE H h' fp b = some (HO.ext fun g => g.get? b = some ob) := by
        unfold trkE
        rw [if_pos hb, eo]
        rfl
      rw [e2] at e
      cases e
      exact ⟨eo, ⟨ob, eo⟩, fun h1 h2 q kk => kk _ q⟩
    · have e2 : H b = some o := by
        unfold trkE at e
        rw [if_neg hb] at e
        exact e
      exact (I.hok b o e2).stay (fun c v _ q => k c v q) (fun c q => same c _ q) fun c xs q => same c _ q
  exact I.un (t' := s.toks) u ok
theorem inv_drp (I : Inv X pins σ H s) (hf : ∀ b ∈ fp, ∃ φ, H b = some (.ext φ)) : Inv X pins σ (drpE H fp) s := by
  have other : ∀ b u, H b = some u → (∀ ψ, u ≠ .ext ψ) → drpE H fp b = some u := fun b u e n => by
    have hb : b ∉ fp := fun z => by
      obtain ⟨φ, q⟩ := hf b z
      rw [e] at q
      exact n φ (Option.some.inj q)
    unfold drpE
    rw [if_neg hb]
    exact e
  have non : ∀ b, H b = none → drpE H fp b = none := fun b e => by
    unfold drpE
    split
    · rfl
    · exact e
  have ok : HOk X.prog X.w (drpE H fp) s.heap := fun b u e => by
    have hb : b ∉ fp := fun z => by
      unfold drpE at e
      rw [if_pos z] at e
      cases e
    unfold drpE at e
    rw [if_neg hb] at e
    exact (I.hok b u e).stay (fun _ _ _ z => z) (fun c z => other c _ z fun _ w => (nomatch w)) fun c xs z => other c _ z fun _ w => (nomatch w)
  have u : Un X.fs [] H (drpE H fp) s.heap s.heap := ⟨fun _ _ e _ _ _ => e, fun _ o e _ _ _ => ⟨o.slots, e⟩, fun b _ _ z _ => non b z, fun _ o e _ => ⟨o, e⟩, fun b xs z => other b _ z fun _ w => (nomatch w),
    fun b o x z => other b _ z fun _ w => (nomatch w), fun b ps z => ⟨#[], by rw [other b _ z fun _ w => (nomatch w)]; simp⟩⟩
  exact I.un (t' := s.toks) u ok
theorem fp_drp (I : Inv X pins σ H s) {b : Addr} {u : HO} (hb : b ∈ fp) (e : H b = some u) (hn : X.s_0.heap.objs.size ≤ b) : FpOk X pins (drpE H fp) b := by
  refine ⟨by unfold drpE; rw [if_pos hb], fun z => ?_, fun z => ?_, .inr hn, fun x c q z => ?_, fun p hp z => ?_⟩
  · rw [z, I.free] at e
    cases e
  · obtain ⟨_, o, ho, _⟩ := I.ok.funs.mem z
    exact absurd (Nat.lt_of_lt_of_le (Heap.lt_size ho) hn) (Nat.lt_irrefl _)
  · have := I.freeC x c q
    rw [z, e] at this
    cases this
  · have := (I.pin p hp).2.1
    rw [z, e] at this
    cases this
end
/-- at z stands a zip of the tuples at a and b, nothing drawn; its objects are fp, all from n on -/
def ZipAt (P : Program) (w : World) (K : PySem.W.Frag) (H : Hp) (n : Nat) (z : Addr) (fp : List Addr) (a b : Addr) : Prop :=
  ∃ (tn : Nat → Heap → Prop) (h : Heap), (∀ elts kk tpos, Turn P w K (.Tuple elts kk tpos) (RZ.ItzT K a b) fp z tn) ∧ tn 0 h ∧ (∀ c ∈ fp, ∃ o, h.get? c = some o ∧ H c = some (.ext fun g => g.get? c = some o)) ∧ (∀ c ∈ fp, n ≤ c) ∧ ∀ (A : Around) (s : Shared) (E : Value → Shared → Prop) (M : Model) (Q : Value → Shared → Prop), M = model P w → tn 0 s.heap → Q (.ref z) s → wpAny M A (pyIter (.ref z)) Q E s
def tZipV (P : Program) (w : World) (K : PySem.W.Frag) (n : Nat) (ta : TA) : TE := fun σ H Q => ta σ H fun vs H1 => ∃ a b xs ys, vs = [.ref a, .ref b] ∧ SqT K H1 a xs ∧ SqT K H1 b ys ∧ ∀ z fp H2, (∀ c ∈ fp, H1 c = none) → Same H1 H2 → ZipAt P w K H2 n z fp a b → Q (.ref z) H2
def iZipV (P : Program) (w : World) (K : PySem.W.Frag) (n k : Nat) : TI := fun σ H R => ∃ z fp a b, σ[k]? = some (some (.ref z)) ∧ ZipAt P w K H n z fp a b ∧ R (RZ.ItzT K a b) (drpE H fp)
section
variable {X : Cx}
theorem pe_zipV {e e2 : Expr} {ta : TA} {p pos : Pos} (hg : Gl X "zip") (hm : X.mg "zip" = none) (ha : PA X [e, e2] ta) (hs : starEach [e, e2] X.env = (false, eval e X.env) :: starEach [e2] X.env := by rfl)
    (hpl : (backTo pos (starEach [e2] X.env)).any (·.1) = false := by rfl) : PE X (.Call (.Name "zip" p) [e, e2] [] pos) (tZipV X.prog X.w X.K X.s_0.heap.objs.size ta) := by
  refine ⟨fun pins s σ H Q I h => ?_⟩
  refine Call_ (ld_blt I hg hm PyProof.Rows.boot_zip (PyProof.Rows.callWith_type1 (thn (ha.run pos pins s σ H _ I h) fun us s1 ⟨vs, H1, I1, r1, q1⟩ => ?_) hs hpl))
  obtain ⟨a, b, xs, ys, ev, qa, qb, q1⟩ := q1
  subst ev
  obtain ⟨u1, u2, rfl, ra, rb⟩ := Vals.two r1
  obtain rfl : u1 = Value.ref a := ra
  obtain rfl : u2 = Value.ref b := rb
  obtain ⟨its, rv, p1, _⟩ := I1.tuple qa
  obtain ⟨its2, rv2, p2, _⟩ := I1.tuple qb
  obtain ⟨o1, ho1, _⟩ := id p1
  obtain ⟨o2, ho2, _⟩ := id p2
  refine call_zipT (show s1.heap.IsTuple a its.toArray from p1) (show s1.heap.IsTuple b its2.toArray from p2) fun h' hz hTI hTO h1 h2 hsz hk => ?_
  have ap := PySem.W.ktu_apart s1.heap.objs.size a b (Heap.lt_size ho1) (Heap.lt_size ho2)
  have T := fun elts kk tpos => RZ.turn_zipT (P := X.prog) (w := X.w) (K := X.K) (elts := elts) (kk := kk) (tpos := tpos) ap
  have new : ∀ c ∈ [s1.heap.objs.size + 4, s1.heap.objs.size + 2, s1.heap.objs.size + 3, s1.heap.objs.size, s1.heap.objs.size + 1], s1.heap.objs.size ≤ c := fun c hc => by
    have e' : c = s1.heap.objs.size + 4 ∨ c = s1.heap.objs.size + 2 ∨ c = s1.heap.objs.size + 3 ∨ c = s1.heap.objs.size ∨ c = s1.heap.objs.size + 1 := by simpa using hc
    omega
  have st := And.intro hz (And.intro hTI (And.intro (⟨_, _, hTO⟩ : ∃ x y, IsPair h' (s1.heap.objs.size + 3) x y) (And.intro h1 h2)))
  have there := fun c hc => (T [] 0 ⟨0, 0, 0, 0⟩).obj 0 h' st c hc
  have I2 := inv_trk I1 hk new fun c hc => let ⟨o, eo, _⟩ := there c hc; ⟨o, eo⟩
  have free : ∀ c ∈ [s1.heap.objs.size + 4, s1.heap.objs.size + 2, s1.heap.objs.size + 3, s1.heap.objs.size, s1.heap.objs.size + 1], H1 c = none := fun c hc => I1.hok.fresh (new c hc)
  refine ⟨.ref (s1.heap.objs.size + 4), _, I2, rfl, q1 _ _ _ free (fun c o e => ?_) ⟨_, h', T, st, fun c hc => ?_, fun c hc => Nat.le_trans I1.sz (new c hc), fun A s E M Q hM st2 hq => ?_⟩⟩
  · have nc : c ∉ [s1.heap.objs.size + 4, s1.heap.objs.size + 2, s1.heap.objs.size + 3, s1.heap.objs.size, s1.heap.objs.size + 1] := fun z => by
      rw [free c z] at e
      cases e
    unfold trkE
    rw [if_neg nc]
    exact e
  · obtain ⟨o, eo, _⟩ := there c hc
    refine ⟨o, eo, ?_⟩
    unfold trkE
    rw [if_pos hc, eo]
    rfl
  · subst hM
    exact (T [] 0 ⟨0, 0, 0, 0⟩).self A 0 s Q E st2 hq
theorem pi_zipV {x : Str} {k : Nat} {p tpos : Pos} {elts : List Expr} {kk : Nat} (hN : X.N[k]? = some x) (hv : Vis X.env.scope x) (hd : (x == ("__debug__" : Str)) = false := by decide) (hcd : (x == ("__classdict__" : Str)) = false := by decide) :
    PI X (.Tuple elts kk tpos) (.Name x p) (iZipV X.prog X.w X.K X.s_0.heap.objs.size k) := by
  refine ⟨fun pins s σ H R I h => ?_⟩
  obtain ⟨z, fp, a, b, hs, ⟨tn, h0, T, st, tr, hn, self⟩, q⟩ := h
  refine thn ((pe_var (pos := p) (i := k) hN hv hd hcd).run pins s σ H (fun v H1 => v = .ref z ∧ H1 = H) I ⟨.ref z, hs, rfl, rfl⟩) fun u s1 ⟨v, H1, I1, r1, ev, eH⟩ => ?_
  subst ev
  rw [eH] at I1
  obtain rfl : u = Value.ref z := r1
  have st1 : tn 0 s1.heap := (T elts kk tpos).keep 0 h0 s1.heap st fun c hc o e => by
    obtain ⟨o', e', eH'⟩ := tr c hc
    rw [e] at e'
    cases e'
    exact (I1.hok c _ eH').1
  refine self _ _ _ _ _ rfl st1 ?_
  have I2 := inv_drp I1 (fp := fp) fun c hc => by
    obtain ⟨o', _, eH'⟩ := tr c hc
    exact ⟨_, eH'⟩
  exact ⟨z, fp, tn, _, _, rfl, I2, T elts kk tpos, st1, fun c hc => by
    obtain ⟨o', _, eH'⟩ := tr c hc
    exact fp_drp I1 hc eH' (hn c hc), q⟩
end
end K30

/-! text: KPts -/
set_option Elab.async false
set_option linter.all false
set_option maxRecDepth 100000
set_option maxHeartbeats 4000000
/-! own layer, fifth part: appending, points, filters -/
namespace K30
open PySem PySem.Spec PyProof.Rows L2 K30M
/-! ### found.append(e) -/
section
variable {l : Option Addr} {H : Hp} {K : PySem.W.Frag} {Γ : Ga} {σ : L2.St} {D : Ends} {telt : TE} {p : Addr} {acc : List V} {R : Pd} {j : Nat}
theorem app_run (f : Fits l Γ σ H) (hj : gt Γ j = some (pV (.ref p))) (hl : ∀ a, l = some a → p ≠ a) (hp : H p = some (.lst acc)) (small : acc.length ≤ 1000) (he : EvG l telt Γ R)
    (q : ∀ y H4, Up l H H4 → Box l R y H4 → H4 p = some (.lst acc) → D.nx σ (upd H4 p (.lst (acc ++ [y])))) : tDrop (tBM K "list" rAppend (tVar j) (tCons telt tNil)) D σ H := by
  obtain ⟨v, e1, b1⟩ := FitL.get f.2 hj
  have ev : v = .ref p := Box.now f.1 b1
  subst ev
  refine ⟨.ref p, e1, .inl ⟨rfl, acc, SqL.of hp⟩, he σ H _ f fun y H4 u by4 => ?_⟩
  have e4 : H4 p = some (.lst acc) := by
    cases l with
    | none => exact u p _ hp
    | some a => exact u.2 p _ (hl a rfl) hp
  exact ⟨p, acc, y, rfl, rfl, e4, small1000 small, q y H4 u by4 e4⟩
end
/-! ### points -/
abbrev pfs (v1 v2 v3 : V) : List (Str × V) := [("cosine", v1), ("sine", v2), ("square", v3)]
/-- a point: its three fields -/
def pPt (K : PySem.W.Frag) (P1 P2 P3 : Pd) : Pd := fun v H => ∃ x dx v1 v2 v3, v = .ref x ∧ H x = some (.ins (He.ga K "Point") dx (pfs v1 v2 v3)) ∧ P1 v1 H ∧ P2 v2 H ∧ P3 v3 H
instance {l : Option Addr} {K : PySem.W.Frag} {P1 P2 P3 : Pd} [a : Mo l P1] [b : Mo l P2] [c : Mo l P3] : Mo l (pPt K P1 P2 P3) := ⟨fun v H H' lo u ⟨x, dx, v1, v2, v3, e, h, p1, p2, p3⟩ =>
  ⟨x, dx, v1, v2, v3, e, Up.at lo u h (fun _ z => by cases z), a.mo _ _ _ lo u p1, b.mo _ _ _ lo u p2, c.mo _ _ _ lo u p3⟩⟩
instance {K : PySem.W.Frag} {P1 P2 P3 : Pd} [a : MoT K P1] [b : MoT K P2] [c : MoT K P3] : MoT K (pPt K P1 P2 P3) := ⟨fun v H H' u ⟨x, dx, v1, v2, v3, e, h, p1, p2, p3⟩ =>
  ⟨x, dx, v1, v2, v3, e, u x _ h (fun _ z => by cases z) (fun _ z => by cases z), a.mo _ _ _ u p1, b.mo _ _ _ u p2, c.mo _ _ _ u p3⟩⟩
theorem ncs : ¬ (("cosine" : Str) = "sine") := by decide +kernel
theorem ncq : ¬ (("cosine" : Str) = "square") := by decide +kernel
theorem nsq : ¬ (("sine" : Str) = "square") := by decide +kernel
theorem put1 (v1 : V) : putF "cosine" v1 [] = [(("cosine" : Str), v1)] := rfl
theorem put2 (v1 v2 : V) : putF "sine" v2 [(("cosine" : Str), v1)] = [(("cosine" : Str), v1), (("sine" : Str), v2)] := by
  show (if ("cosine" : Str) = "sine" then _ else _) = _
  rw [if_neg ncs]
  rfl
theorem put3 (v1 v2 v3 : V) : putF "square" v3 [(("cosine" : Str), v1), (("sine" : Str), v2)] = pfs v1 v2 v3 := by
  show (if ("cosine" : Str) = "square" then _ else (("cosine" : Str), v1) :: (if ("sine" : Str) = "square" then _ else _)) = _
  rw [if_neg ncq, if_neg nsq]
  rfl
theorem look_c (v1 v2 v3 : V) : (pfs v1 v2 v3).lookup ("cosine" : Str) = some v1 := by
  simp [List.lookup]
theorem look_s (v1 v2 v3 : V) : (pfs v1 v2 v3).lookup ("sine" : Str) = some v2 := by
  have e1 : ((("sine" : Str) == "cosine") = false) := beq_eq_false_iff_ne.mpr (Ne.symm ncs)
  simp [List.lookup, e1]
theorem look_q (v1 v2 v3 : V) : (pfs v1 v2 v3).lookup ("square" : Str) = some v3 := by
  have e1 : ((("square" : Str) == "cosine") = false) := beq_eq_false_iff_ne.mpr (Ne.symm ncq)
  have e2 : ((("square" : Str) == "sine") = false) := beq_eq_false_iff_ne.mpr (Ne.symm nsq)
  simp [List.lookup, e1, e2]
theorem look_m (v1 v2 v3 : V) : (pfs v1 v2 v3).lookup ("sign_of_row" : Str) = none := by
  have e1 : ((("sign_of_row" : Str) == "cosine") = false) := by decide +kernel
  have e2 : ((("sign_of_row" : Str) == "sine") = false) := by decide +kernel
  have e3 : ((("sign_of_row" : Str) == "square") = false) := by decide +kernel
  simp [List.lookup, e1, e2, e3]
section
variable {K : PySem.W.Frag} {mg : Str → Option Value}
theorem pt_cls (T : Txt K mg) : Cls K (He.ga K "Point") := He.cls_ok (T.says.fact 93 (f := .cls "Point") rfl)
theorem pt_nc (T : Txt K mg) : NoAttr K (He.ga K "Point") "cosine" := He.noat_ok (T.says.fact 94 (f := .noat "Point" "cosine") rfl)
theorem pt_ns (T : Txt K mg) : NoAttr K (He.ga K "Point") "sine" := He.noat_ok (T.says.fact 95 (f := .noat "Point" "sine") rfl)
theorem pt_nq (T : Txt K mg) : NoAttr K (He.ga K "Point") "square" := He.noat_ok (T.says.fact 96 (f := .noat "Point" "square") rfl)
theorem pt_meth (T : Txt K mg) : Meth K (He.ga K "Point") "sign_of_row" (He.ma K (He.ga K "Point") "sign_of_row") := He.meth_ok (T.says.fact 97 (f := .meth "Point" "sign_of_row") rfl)
theorem pt_mk (T : Txt K mg) : Mk K (He.ga K "Point") (He.ma K (He.ga K "Point") "__init__") := He.mkr_ok (T.says.fact 98 (f := .mkr "Point") rfl)
theorem pt_mg (T : Txt K mg) : mg "Point" = some (.ref (He.ga K "Point")) := T.glo 92 rfl
end
/-- a def within the class, at its address -/
structure FnM (P : Program) (w : World) (K : PySem.W.Frag) (mg : Str → Option Value) (base : Heap) (k : Nat) (f : Addr) (ps : List Str) (sp : Sp) : Prop where
  ex : ∃ fd : FuncData, FnOk P w K mg base CX0 k f fd ps sp ∧ Binds K fd ps []
section
variable {P : Program} {w : World} {K : PySem.W.Frag} {mg : Str → Option Value} {base : Heap}
theorem fnM_mk {k : Nat} {x qual : Str} {st : Stmt} {N ps : List Str} {sp : Sp} (T : Txt K mg) (i : Nat) (hd : fn[i]? = some ⟨("Point", some x), x, qual, defArgs st, defBody st, defScope st, [], []⟩) (S : FnScope N ps (defScope st))
    (len : ∀ vs H Q E, sp vs H Q E → vs.length = ps.length)
    (hb : ∀ (kV doc pm : Value) (an : Option Addr) (cdv ct : Value) (us : List Value), us.length = ps.length → bindArgs (PySem.W.fnOf x qual (defArgs st) (defBody st) (defScope st) .none kV doc pm an cdv ct) ⟨us, []⟩ = pure (ps.zip us))
    (body : ∀ (f : Addr) (cdv : Value) (A : Around) (outer : List Env) (s : Shared) (H : Hp) (vs : List V) (Q : VK) (E : XK), Room k (A.deeper (envOfC qual (defScope st) s.heap.objs.size f cdv)) → sp vs H Q E →
      ∃ t, PSs (cxOf CX0 P w K mg base N qual (defScope st) f cdv A outer s H E).nox (defBody st) t ∧ t { nx := fun _ H' => Q .non H', rt := Q } (start N vs) H) : FnM P w K mg base (k + 1) (He.ma K (He.ga K "Point") x) ps sp := by
  obtain ⟨fd, F⟩ := T.says.def_ i hd
  refine ⟨fd, FunD.ok F S len (fun cdv A outer s H vs Q E hr h => ?_), FunD.bindsN F hb⟩
  obtain ⟨t, h1, h2⟩ := body _ cdv A outer s H vs Q E hr h
  exact ⟨t, h1.nox, h2⟩
/-! __init__ -/
def sp_Point_init (K : PySem.W.Frag) : Sp := fun vs H Q _ => ∃ x dx v1 v2 v3, vs = [.ref x, v1, v2, v3] ∧ H x = some (.ins (He.ga K "Point") dx []) ∧ Q .non (upd H x (.ins (He.ga K "Point") dx (pfs v1 v2 v3)))
theorem sc_Point_init : FnScope ["self", "cosine", "sine", "square"] ["self", "cosine", "sine", "square"] (defScope s_Point_init) := ⟨rfl, rfl, rfl, by decide +kernel, rfl, by decide +kernel, by decide +kernel⟩
theorem ok_Point_init (T : Txt K mg) : FnM P w K mg base 1 (He.ma K (He.ga K "Point") "__init__") ["self", "cosine", "sine", "square"] (sp_Point_init K) := by
  refine fnM_mk T 37 rfl sc_Point_init (fun vs H Q E h => ?_) (fun _ _ _ _ _ _ us hl => match us, hl with | [_, _, _, _], _ => rfl) (fun f cdv A outer s H vs Q E hr h => ?_)
  · obtain ⟨x, dx, v1, v2, v3, rfl, _⟩ := h
    rfl
  · obtain ⟨x, dx, v1, v2, v3, rfl, hx, k⟩ := h
    refine ⟨_, pss_cons (ps_fld (pv 0) (pv 1) rfl) (pss_cons (ps_fld (pv 0) (pv 2) rfl) (pss_one (ps_fld (pv 0) (pv 3) rfl))), ?_⟩
    refine ⟨v1, rfl, .ref x, rfl, x, _, dx, [], rfl, hx, pt_cls T, pt_nc T, (by decide), ?_⟩
    refine ⟨v2, rfl, .ref x, rfl, x, _, dx, _, rfl, upd_same, pt_cls T, pt_ns T, (by rw [put1]; exact (by decide : 1 < 1000)), ?_⟩
    refine ⟨v3, rfl, .ref x, rfl, x, _, dx, _, rfl, upd_same, pt_cls T, pt_nq T, (by rw [put1, put2]; exact (by decide : 2 < 1000)), ?_⟩
    rw [put1, put2, put3, upd_upd, upd_upd]
    exact k
end
section
variable {X : Cx} {k : Nat} {p pos apos : Pos} {e o : Expr} {es : List Expr} {t : TA} {ta : TE}
theorem pe_makeP (T : Txt X.K X.mg) (F : FnM X.prog X.w X.K X.mg X.base k (He.ma X.K (He.ga X.K "Point") "__init__") ["self", "cosine", "sine", "square"] (sp_Point_init X.K)) (hr : Room (k + 1) X.A) (ha : PA X (e :: es) t) (hg : Gl X "Point" := by rfl)
    (he : starEach (e :: es) X.env = (false, eval e X.env) :: starEach es X.env := by rfl) (hpl : (backTo pos (starEach es X.env)).any (·.1) = false := by rfl) : PE X (.Call (.Name "Point" p) (e :: es) [] pos) (tMake (He.ga X.K "Point") (sp_Point_init X.K) [] E0 t) := by
  obtain ⟨fd, F, hb⟩ := F.ex
  exact pe_make (pt_mk T) F hr hg (pt_mg T) hb .nil pass0 ha (by decide) he hpl
theorem pe_methP {pl : Sem Bool} {sp : Sp} (T : Txt X.K X.mg) (F : FnM X.prog X.w X.K X.mg X.base k (He.ma X.K (He.ga X.K "Point") "sign_of_row") ["self", "row"] sp) (hr : Room k X.A) (ho : PE X o ta) (ha : PA X (e :: es) t)
    (hst : starEach (e :: es) X.env = (false, eval e X.env) :: starEach es X.env := by rfl) (hpl : (backTo pos (starEach es X.env)).any (·.1) = false := by rfl)
    (ht : eval (.Call (.Attribute o "sign_of_row" apos) (e :: es) [] pos) X.env = (do
      let ov ← eval o X.env
      standAt apos.atName
      let (f, first) ← holding [ov] (getMethod ov "sign_of_row" pl)
      callWith pos f first (backTo pos (starEach (e :: es) X.env)) (backToKw pos (keywordEach [] X.env))) := by rfl) :
    PE X (.Call (.Attribute o "sign_of_row" apos) (e :: es) [] pos) (tMeth (He.ga X.K "Point") "sign_of_row" sp [] E0 ta t) := by
  obtain ⟨fd, F, hb⟩ := F.ex
  exact pe_meth ho (pt_cls T) (pt_meth T) F hr hb .nil pass0 ha hst hpl ht
end
section
variable {l : Option Addr} {Γ : Ga} {K : PySem.W.Frag} {mg : Str → Option Value} {P P1 P2 P3 R : Pd} {Ps : List Pd} {te : TE} {t : TA}
/-- Point(..) -/
theorem e_makeP [Mo none P1] [Mo none P2] [Mo none P3] (ha : EvA none t Γ [P1, P2, P3]) : EvG none (tMake (He.ga K "Point") (sp_Point_init K) [] E0 t) Γ (pPt K P1 P2 P3) := fun σ H Q f q =>
  ha σ H _ f fun vs H1 u1 b1 x dx nx ndx ne => by
    obtain ⟨v1, v2, v3, rfl, p1, p2, p3⟩ := AllP.three (BoxL.now u1.lo b1)
    refine ⟨x, dx, v1, v2, v3, rfl, upd_same, rfl, ?_⟩
    have u2 : Same H1 (upd (upd (upd H1 dx (.own x)) x (.ins (He.ga K "Point") dx [])) x (.ins (He.ga K "Point") dx (pfs v1 v2 v3))) := fun b o e => by
      rw [upd_ne (ne_of_none e nx), upd_ne (ne_of_none e nx), upd_ne (ne_of_none e ndx)]
      exact e
    exact q _ _ (Same.trans u1 u2) (box_of (l := none) (P := pPt K P1 P2 P3) trivial ⟨x, dx, v1, v2, v3, rfl, upd_same, Mo.mo (l := none) v1 H1 _ trivial u2 p1, Mo.mo (l := none) v2 H1 _ trivial u2 p2, Mo.mo (l := none) v3 H1 _ trivial u2 p3⟩)
theorem e_fldc (T : Txt K mg) [Mo l P1] (h : EvG l te Γ (pPt K P1 P2 P3)) : EvG l (tFld K te "cosine") Γ P1 := fun σ H Q f q =>
  h σ H _ f fun v H1 u1 b1 => by
    obtain ⟨x, dx, v1, v2, v3, e, hx, p1, p2, p3⟩ := Box.now u1.lo b1
    exact ⟨x, _, dx, _, v1, e, hx, pt_cls T, pt_nc T, look_c v1 v2 v3, q v1 H1 u1 (box_of u1.lo p1)⟩
theorem e_flds (T : Txt K mg) [Mo l P2] (h : EvG l te Γ (pPt K P1 P2 P3)) : EvG l (tFld K te "sine") Γ P2 := fun σ H Q f q =>
  h σ H _ f fun v H1 u1 b1 => by
    obtain ⟨x, dx, v1, v2, v3, e, hx, p1, p2, p3⟩ := Box.now u1.lo b1
    exact ⟨x, _, dx, _, v2, e, hx, pt_cls T, pt_ns T, look_s v1 v2 v3, q v2 H1 u1 (box_of u1.lo p2)⟩
theorem e_fldq (T : Txt K mg) [Mo l P3] (h : EvG l te Γ (pPt K P1 P2 P3)) : EvG l (tFld K te "square") Γ P3 := fun σ H Q f q =>
  h σ H _ f fun v H1 u1 b1 => by
    obtain ⟨x, dx, v1, v2, v3, e, hx, p1, p2, p3⟩ := Box.now u1.lo b1
    exact ⟨x, _, dx, _, v3, e, hx, pt_cls T, pt_nq T, look_q v1 v2 v3, q v3 H1 u1 (box_of u1.lo p3)⟩
/-- point.sign_of_row(row) -/
theorem e_meth {sp : Sp} {PP : Pd} [mo : Mo none R] [Mo none P1] [Mo none P2] [Mo none P3] (h : ∀ vs H Q, AllP (pPt K P1 P2 P3 :: Ps) vs H → (∀ v H', Same H H' → R v H' → Q v H') → sp vs H Q E0) (ho : EvG none te Γ (pPt K P1 P2 P3)) (ha : EvA none t Γ Ps) :
    EvG none (tMeth (He.ga K "Point") "sign_of_row" sp [] E0 te t) Γ R := fun σ H Q f q =>
  ho σ H _ f fun v H1 u1 b1 => by
    obtain ⟨x, dx, v1, v2, v3, e, hx, p⟩ := Box.now u1.lo b1
    refine ⟨x, dx, _, e, hx, look_m v1 v2 v3, ha σ H1 _ (f.up u1) fun vs H2 u2 b2 => ?_⟩
    rw [List.append_nil]
    refine h (v :: vs) H2 Q ⟨Box.now u2.lo (Box.up u2 b1), BoxL.now u2.lo b2⟩ fun y H3 s r => ?_
    exact q y H3 ((u1.trans u2).trans s) (box_of (l := none) trivial r)
/-- a comprehension that keeps nothing: over a list -/
theorem e_lcNone [mm : MoL none Ps] {i : Nat} {tt : TT} {telt : TE} (hs : EvG none te Γ (pL K Ps)) (ht : ∀ P ∈ Ps, EvT none tt (pt (wipeG Γ [i]) i (some P)) false) : EvG none (tLc (iList K te) (gName i) tt telt [i]) Γ (pL K []) := fun σ H0 Q f q =>
  hs σ H0 _ f fun v H1 u1 b1 => by
    obtain ⟨a, xs, e, s, p⟩ := Box.now u1.lo b1
    have bl := boxL_of (l := none) u1.lo p
    refine ⟨a, e, ⟨xs, s⟩, fun D nD => lc_list (K := K) (a := a) (xs := xs) (fun i H => Same H1 H ∧ H D = some (.lst [])) ⟨Same.new nD, upd_same⟩ (fun i H _ hp => Same.seq hp.1 s) (fun k x H hx hp => ?_) fun H hp => ?_⟩
    · have hk : k < Ps.length := by
        have := (List.getElem?_eq_some_iff.mp hx).1
        have := AllP.len p
        omega
      have hP : Ps[k]? = some Ps[k] := List.getElem?_eq_getElem hk
      have bx : Box none Ps[k] x H1 := BoxL.at bl hP hx
      refine ⟨?_, ht _ (List.getElem_mem _) _ H _ (((f.up u1).up (l := none) hp.1 |>.wipe [i]).put (Box.up (l := none) hp.1 bx)) fun H3 u3 => ?_⟩
      · show ((σ.set i none).set i (some x)).set i none = σ.set i none
        rw [List.set_set, List.set_set]
      · rw [if_neg Bool.false_ne_true]
        exact ⟨hp.1.trans u3, u3 _ _ hp.2⟩
    · exact q _ H (Same.trans u1 hp.1) fun H' u => ⟨D, [], rfl, .inl (.inl (u _ _ hp.2)), trivial⟩
end
end K30

/-! text: KTwo -/
set_option Elab.async false
set_option linter.all false
set_option maxRecDepth 100000
set_option maxHeartbeats 4000000
/-! own layer, sixth part: walks over two things at once -/
namespace K30
open PySem PySem.Spec PyProof.Rows L2 RZ K30M
section
variable {K : PySem.W.Frag} {Γ : Ga} {Rs : List Pd} {telt : TE} {g : TG} {vs : List Nat} {P R : Pd}
/-- one turn of a comprehension, with its list -/
theorem lc_turn {H1 H : Hp} {σ : L2.St} {D : Addr} {i : Nat} {v : V} {acc : List V} {Z : Hp → Prop} [m : MoTA K Rs] (f : Fits none Γ σ H1) (hR : Rs[i]? = some R) (t : Turn1 g telt vs Γ P R) (nD : H1 D = none) (s : Same H1 H) (bx : Box none P v H)
    (eD : H D = some (.lst acc)) (hacc : AllP (Rs.take i) acc H) (small : Rs.length ≤ 1000) :
    g v (wipe σ vs) H fun σ2 H2 => wipe σ2 vs = wipe σ vs ∧ tYes σ2 H2 fun c H3 =>
      if c = true then telt σ2 H3 fun y H4 => ∃ acc, H4 D = some (.lst acc) ∧ acc.length < sizeLine ∧ (Same H1 (upd H4 D (.lst (acc ++ [y]))) ∧ ∃ acc', (upd H4 D (.lst (acc ++ [y]))) D = some (.lst acc') ∧ AllP (Rs.take (i + 1)) acc' (upd H4 D (.lst (acc ++ [y])))) else Z H3 := by
  have key : (fun (σ2 : L2.St) (H2 : Hp) => wipe σ2 vs = wipe σ vs ∧ tYes σ2 H2 fun c H3 => if c = true then telt σ2 H3 fun y H4 => ∃ acc, H4 D = some (.lst acc) ∧ acc.length < sizeLine ∧ (Same H1 (upd H4 D (.lst (acc ++ [y]))) ∧ ∃ acc', (upd H4 D (.lst (acc ++ [y]))) D = some (.lst acc') ∧ AllP (Rs.take (i + 1)) acc' (upd H4 D (.lst (acc ++ [y])))) else Z H3) =
      fun σ2 H2 => wipe σ2 vs = wipe σ vs ∧ telt σ2 H2 fun y H4 => ∃ acc, H4 D = some (.lst acc) ∧ acc.length < sizeLine ∧ (Same H1 (upd H4 D (.lst (acc ++ [y]))) ∧ ∃ acc', (upd H4 D (.lst (acc ++ [y]))) D = some (.lst acc') ∧ AllP (Rs.take (i + 1)) acc' (upd H4 D (.lst (acc ++ [y])))) := by
    funext σ2 H2
    exact congrArg (fun z => wipe σ2 vs = wipe σ vs ∧ z) (by
      unfold tYes
      exact if_pos rfl)
  rw [key]
  refine t v σ H _ (f.up s) bx fun y H4 s4 by4 => ?_
  have e4 := s4 _ _ eD
  have la := AllP.len hacc
  have hM : MoTL K (Rs.take i) := motl_of fun P hp => m.all P (List.mem_of_mem_take hp)
  have hMR : MoT K R := m.all R (List.mem_of_getElem? hR)
  refine ⟨acc, e4, ?_, Same.mut (s.trans s4) nD, _, upd_same, ?_⟩
  · have : acc.length ≤ 1000 := by
      rw [la, List.length_take]
      omega
    exact small1000 this
  · rw [take_at hR]
    exact AllP.snoc (hM.mo _ _ _ ((Tup.same s4).trans (Tup.lst e4)) hacc) (hMR.mo _ _ _ (Tup.lst e4) (Box.now (l := none) (show Lo none H4 from trivial) by4))
theorem lc_end {H1 H : Hp} {D : Addr} {n : Nat} {Q : V → Hp → Prop} [m : MoTA K Rs] (hn : Rs.length ≤ n) (q : ∀ v H', Same H1 H' → Box none (pL K Rs) v H' → Q v H') (hp : Same H1 H ∧ ∃ acc, H D = some (.lst acc) ∧ AllP (Rs.take n) acc H) : Q (.ref D) H := by
  obtain ⟨s, acc, eD, hacc⟩ := hp
  have hM : MoTL K Rs := motl_of m.all
  refine q _ H s fun H' u => ⟨D, acc, rfl, .inl (.inl (u _ _ eD)), hM.mo _ _ _ (Tup.same u) ?_⟩
  rw [List.take_of_length_le hn] at hacc
  exact hacc
end
/-! two tuples -/
section
variable {K : PySem.W.Frag}
theorem lc_zipT {a b : Addr} {xs ys : List V} {g : TG} {tt : TT} {te : TE} {vs : List Nat} {σ : L2.St} {H1 : Hp} {D : Addr} {Qd : Hp → Prop} (hl : xs.length = ys.length) (Pv : Nat → Hp → Prop) (h0 : Pv 0 (upd H1 D (.lst []))) (hq : ∀ i H, Pv i H → SqT K H a xs ∧ SqT K H b ys)
    (hs : ∀ i x y T H, xs[i]? = some x → ys[i]? = some y → Pv i H → H T = none → g (.ref T) (wipe σ vs) (upd H T (.tup [x, y])) fun σ2 H2 => wipe σ2 vs = wipe σ vs ∧ tt σ2 H2 fun b H3 =>
      if b = true then te σ2 H3 fun y H4 => ∃ acc, H4 D = some (.lst acc) ∧ acc.length < sizeLine ∧ Pv (i + 1) (upd H4 D (.lst (acc ++ [y]))) else Pv (i + 1) H3) (hd : ∀ H, Pv xs.length H → Qd H) :
    ∃ W : Nat → Nat → Hp → Prop, (∃ m, W 0 m (upd H1 D (.lst []))) ∧ ∀ i m H, W i m H →
      ((ItzT K a b).stop i H ∧ Qd H) ∨ ((ItzT K a b).go i H ∧ ∃ Nx : Hp → Prop, (∀ H', Nx H' → ∃ m', m' < m ∧ W (i + 1) m' H') ∧ ∀ x H', (ItzT K a b).yld i H x H' → g x (wipe σ vs) H' fun σ2 H2 => wipe σ2 vs = wipe σ vs ∧ tt σ2 H2 fun b H3 =>
        if b = true then te σ2 H3 fun y H4 => ∃ acc, H4 D = some (.lst acc) ∧ acc.length < sizeLine ∧ Nx (upd H4 D (.lst (acc ++ [y]))) else Nx H3) := by
  refine ⟨fun i m H => m = xs.length - i ∧ i ≤ xs.length ∧ Pv i H, ⟨xs.length, rfl, Nat.zero_le _, h0⟩, ?_⟩
  rintro i m H ⟨em, hi, p⟩
  obtain ⟨qx, qy⟩ := hq i H p
  by_cases hlt : i < xs.length
  · have hx : xs[i]? = some xs[i] := List.getElem?_eq_getElem hlt
    have hlt2 : i < ys.length := by omega
    have hy : ys[i]? = some ys[i] := List.getElem?_eq_getElem hlt2
    refine .inr ⟨⟨xs, ys, _, _, qx, qy, hx, hy⟩, Pv (i + 1), fun H' p' => ⟨xs.length - (i + 1), by omega, rfl, hlt, p'⟩, fun v H' y => ?_⟩
    obtain ⟨T, x', y', rfl, hT, rfl, f1, f2⟩ := y
    exact hs i x' y' T H (f1 xs qx) (f2 ys qy) p hT
  · have e : i = xs.length := by omega
    subst e
    exact .inl ⟨⟨xs, ys, qx, qy, Or.inl (Nat.le_refl _)⟩, hd H p⟩
/-- the pairs of two rows of predicates -/
theorem e_lcZT {Γ : Ga} {Ps Qs Rs : List Pd} {ta : TA} {telt : TE} {g : TG} {vs : List Nat} [m : MoTA K Rs] [mm : MoL none Ps] [mq : MoL none Qs] (hs : EvA none ta Γ [pT K Ps, pT K Qs]) (hl : Ps.length = Qs.length) (hr : Ps.length = Rs.length) (small : Rs.length ≤ 1000)
    (h : ∀ (i : Nat) (P Q R : Pd), Ps[i]? = some P → Qs[i]? = some Q → Rs[i]? = some R → Turn1 g telt vs Γ (pT K [P, Q]) R) : EvG none (tLc (iZipA K ta) g tYes telt vs) Γ (pL K Rs) := fun σ H0 Q f q =>
  hs σ H0 _ f fun ws H1 u1 b1 => by
    obtain ⟨v1, v2, rfl, ⟨a, xs, e1, s1, p1⟩, ⟨b, ys, e2, s2, p2⟩⟩ := AllP.two (BoxL.now u1.lo b1)
    have lx := AllP.len p1
    have ly := AllP.len p2
    have bx := boxL_of (l := none) u1.lo p1
    have by_ := boxL_of (l := none) u1.lo p2
    subst e1 e2
    refine ⟨a, b, xs, ys, rfl, .inr ⟨s1, s2, fun D nD => lc_zipT (by omega) (fun i H => Same H1 H ∧ ∃ acc, H D = some (.lst acc) ∧ AllP (Rs.take i) acc H) ⟨Same.new nD, [], upd_same, trivial⟩ (fun i H hp => ⟨Same.sqT hp.1 s1, Same.sqT hp.1 s2⟩) (fun i x y T H hx hy hp nT => ?_) fun H hp => ?_⟩⟩
    · obtain ⟨s, acc, eD, hacc⟩ := hp
      have hi : i < xs.length := (List.getElem?_eq_some_iff.mp hx).1
      have hP : Ps[i]? = some Ps[i] := List.getElem?_eq_getElem (by omega)
      have hQ : Qs[i]? = some Qs[i] := List.getElem?_eq_getElem (by omega)
      have hR : Rs[i]? = some Rs[i] := List.getElem?_eq_getElem (by omega)
      have sT : Same H (upd H T (.tup [x, y])) := Same.new nT
      have hM : MoTL K (Rs.take i) := motl_of fun P hp => m.all P (List.mem_of_mem_take hp)
      refine lc_turn (K := K) (f.up u1) hR (h i _ _ _ hP hQ hR) nD (s.trans sT) (fun H' u' => ?_) (sT _ _ eD) (hM.mo _ _ _ (Tup.same sT) hacc) small
      exact ⟨T, [x, y], rfl, .inl (.inl (u' _ _ upd_same)), BoxL.at bx hP hx H' ((s.trans sT).trans u'), BoxL.at by_ hQ hy H' ((s.trans sT).trans u'), trivial⟩
    · exact lc_end (K := K) (Rs := Rs) (H1 := H1) (n := xs.length) (by omega) (fun v H' u b => q v H' (Same.trans u1 u) b) hp
end
/-! two lists -/
section
variable {K : PySem.W.Frag}
theorem lc_zipL {a b : Addr} {xs ys : List V} {g : TG} {tt : TT} {te : TE} {vs : List Nat} {σ : L2.St} {H1 : Hp} {D : Addr} {Qd : Hp → Prop} (hl : xs.length = ys.length) (Pv : Nat → Hp → Prop) (h0 : Pv 0 (upd H1 D (.lst []))) (hq : ∀ i H, Pv i H → SqL K H a xs ∧ SqL K H b ys)
    (hs : ∀ i x y T H, xs[i]? = some x → ys[i]? = some y → Pv i H → H T = none → g (.ref T) (wipe σ vs) (upd H T (.tup [x, y])) fun σ2 H2 => wipe σ2 vs = wipe σ vs ∧ tt σ2 H2 fun b H3 =>
      if b = true then te σ2 H3 fun y H4 => ∃ acc, H4 D = some (.lst acc) ∧ acc.length < sizeLine ∧ Pv (i + 1) (upd H4 D (.lst (acc ++ [y]))) else Pv (i + 1) H3) (hd : ∀ H, Pv xs.length H → Qd H) :
    ∃ W : Nat → Nat → Hp → Prop, (∃ m, W 0 m (upd H1 D (.lst []))) ∧ ∀ i m H, W i m H →
      ((Itz K a b).stop i H ∧ Qd H) ∨ ((Itz K a b).go i H ∧ ∃ Nx : Hp → Prop, (∀ H', Nx H' → ∃ m', m' < m ∧ W (i + 1) m' H') ∧ ∀ x H', (Itz K a b).yld i H x H' → g x (wipe σ vs) H' fun σ2 H2 => wipe σ2 vs = wipe σ vs ∧ tt σ2 H2 fun b H3 =>
        if b = true then te σ2 H3 fun y H4 => ∃ acc, H4 D = some (.lst acc) ∧ acc.length < sizeLine ∧ Nx (upd H4 D (.lst (acc ++ [y]))) else Nx H3) := by
  refine ⟨fun i m H => m = xs.length - i ∧ i ≤ xs.length ∧ Pv i H, ⟨xs.length, rfl, Nat.zero_le _, h0⟩, ?_⟩
  rintro i m H ⟨em, hi, p⟩
  obtain ⟨qx, qy⟩ := hq i H p
  by_cases hlt : i < xs.length
  · have hx : xs[i]? = some xs[i] := List.getElem?_eq_getElem hlt
    have hlt2 : i < ys.length := by omega
    have hy : ys[i]? = some ys[i] := List.getElem?_eq_getElem hlt2
    refine .inr ⟨⟨xs, ys, _, _, qx, qy, hx, hy⟩, Pv (i + 1), fun H' p' => ⟨xs.length - (i + 1), by omega, rfl, hlt, p'⟩, fun v H' y => ?_⟩
    obtain ⟨T, x', y', rfl, hT, rfl, f1, f2⟩ := y
    exact hs i x' y' T H (f1 xs qx) (f2 ys qy) p hT
  · have e : i = xs.length := by omega
    subst e
    exact .inl ⟨⟨xs, ys, qx, qy, Or.inl (Nat.le_refl _)⟩, hd H p⟩
/-- the pairs of two rows of predicates -/
theorem e_lcZL {Γ : Ga} {Ps Qs Rs : List Pd} {ta : TA} {telt : TE} {g : TG} {vs : List Nat} [m : MoTA K Rs] [mm : MoL none Ps] [mq : MoL none Qs] (hs : EvA none ta Γ [pL K Ps, pL K Qs]) (hl : Ps.length = Qs.length) (hr : Ps.length = Rs.length) (small : Rs.length ≤ 1000)
    (h : ∀ (i : Nat) (P Q R : Pd), Ps[i]? = some P → Qs[i]? = some Q → Rs[i]? = some R → Turn1 g telt vs Γ (pT K [P, Q]) R) : EvG none (tLc (iZipA K ta) g tYes telt vs) Γ (pL K Rs) := fun σ H0 Q f q =>
  hs σ H0 _ f fun ws H1 u1 b1 => by
    obtain ⟨v1, v2, rfl, ⟨a, xs, e1, s1, p1⟩, ⟨b, ys, e2, s2, p2⟩⟩ := AllP.two (BoxL.now u1.lo b1)
    have lx := AllP.len p1
    have ly := AllP.len p2
    have bx := boxL_of (l := none) u1.lo p1
    have by_ := boxL_of (l := none) u1.lo p2
    subst e1 e2
    refine ⟨a, b, xs, ys, rfl, .inl ⟨s1, s2, fun D nD => lc_zipL (by omega) (fun i H => Same H1 H ∧ ∃ acc, H D = some (.lst acc) ∧ AllP (Rs.take i) acc H) ⟨Same.new nD, [], upd_same, trivial⟩ (fun i H hp => ⟨Same.seq hp.1 s1, Same.seq hp.1 s2⟩) (fun i x y T H hx hy hp nT => ?_) fun H hp => ?_⟩⟩
    · obtain ⟨s, acc, eD, hacc⟩ := hp
      have hi : i < xs.length := (List.getElem?_eq_some_iff.mp hx).1
      have hP : Ps[i]? = some Ps[i] := List.getElem?_eq_getElem (by omega)
      have hQ : Qs[i]? = some Qs[i] := List.getElem?_eq_getElem (by omega)
      have hR : Rs[i]? = some Rs[i] := List.getElem?_eq_getElem (by omega)
      have sT : Same H (upd H T (.tup [x, y])) := Same.new nT
      have hM : MoTL K (Rs.take i) := motl_of fun P hp => m.all P (List.mem_of_mem_take hp)
      refine lc_turn (K := K) (f.up u1) hR (h i _ _ _ hP hQ hR) nD (s.trans sT) (fun H' u' => ?_) (sT _ _ eD) (hM.mo _ _ _ (Tup.same sT) hacc) small
      exact ⟨T, [x, y], rfl, .inl (.inl (u' _ _ upd_same)), BoxL.at bx hP hx H' ((s.trans sT).trans u'), BoxL.at by_ hQ hy H' ((s.trans sT).trans u'), trivial⟩
    · exact lc_end (K := K) (Rs := Rs) (H1 := H1) (n := xs.length) (by omega) (fun v H' u b => q v H' (Same.trans u1 u) b) hp
end
end K30

/-! text: KFor -/
set_option Elab.async false
set_option linter.all false
set_option maxRecDepth 100000
set_option maxHeartbeats 4000000
/-! own layer, seventh part: loops that append; a zip held by a name; lists while drawing -/
namespace K30
open PySem PySem.Spec PyProof.Rows L2 RZ K30M
/-! ### a list, other than the lode -/
def pLg (l : Option Addr) (K : PySem.W.Frag) (Ps : List Pd) : Pd := fun v H => ∃ p vs, v = .ref p ∧ (∀ a, l = some a → p ≠ a) ∧ H p = some (.lst vs) ∧ AllP Ps vs H
theorem Up.lst {l : Option Addr} {H H' : Hp} {p : Addr} {vs : List V} (u : Up l H H') (n : ∀ a, l = some a → p ≠ a) (e : H p = some (.lst vs)) : H' p = some (.lst vs) := by
  cases l with
  | none => exact u p _ e
  | some a => exact u.2 p _ (n a rfl) e
instance {l : Option Addr} {K : PySem.W.Frag} {Ps : List Pd} [m : MoL l Ps] : Mo l (pLg l K Ps) := ⟨fun _ H H' lo u ⟨p, vs, e, n, h, q⟩ => ⟨p, vs, e, n, Up.lst u n h, m.mo vs H H' lo u q⟩⟩
theorem pLg_L {K : PySem.W.Frag} {Ps : List Pd} {v : V} {H : Hp} {l : Option Addr} (h : pLg l K Ps v H) : pL K Ps v H := by
  obtain ⟨p, vs, e, _, h, q⟩ := h
  exact ⟨p, vs, e, SqL.of h, q⟩
theorem fresh_ne {l : Option Addr} {H : Hp} {p : Addr} (lo : Lo l H) (n : H p = none) : ∀ a, l = some a → p ≠ a := fun a e z => by
  subst e z
  obtain ⟨x, y, w, e⟩ := lo
  rw [n] at e
  cases e
theorem Up.mut {l : Option Addr} {H1 H4 : Hp} {p : Addr} {o : HO} (u : Up l H1 H4) (n : H1 p = none) (np : ∀ a, l = some a → p ≠ a) : Up l H1 (upd H4 p o) := by
  cases l with
  | none => exact Same.mut u n
  | some a =>
    obtain ⟨⟨x, y, w, e⟩, k⟩ := u
    refine ⟨⟨x, y, w, by rw [upd_ne (Ne.symm (np a rfl))]; exact e⟩, fun b o' nb e' => ?_⟩
    rw [upd_ne (ne_of_none e' n)]
    exact k b o' nb e'
theorem MoE.pt {K : PySem.W.Frag} {P : Pd} [mp : MoT K P] : ∀ {Γ : Ga} {j : Nat}, MoE K Γ → MoE K (pt Γ j (some P))
  | [], _, _ => inferInstanceAs (MoE K [])
  | o :: Γ, 0, m => ⟨fun Q h => by
    rcases List.mem_cons.mp h with e | h
    · cases e
      exact mp
    · exact m.all Q (List.mem_cons_of_mem _ h)⟩
  | o :: Γ, j + 1, m => ⟨fun Q h => by
    rcases List.mem_cons.mp h with e | h
    · subst e
      exact m.all Q List.mem_cons_self
    · exact (MoE.pt (j := j) ⟨fun Q q => m.all Q (List.mem_cons_of_mem _ q)⟩).all Q h⟩
/-! ### loops that append -/
section
variable {l : Option Addr} {K : PySem.W.Frag} {j i : Nat} {Γ : Ga} {Ps Qs Rs : List Pd} {P R : Pd} {H0 H1 Hs : Hp} {D : Ends} {g : TG} {tb t : TS} {te : TE} {ta : TA} {p : Addr}
def Acc (l : Option Addr) (K : PySem.W.Frag) (j : Nat) (p : Addr) (Γ : Ga) (Rs : List Pd) (H1 Hs : Hp) (k : Nat) : L2.St → Hp → Prop := fun σ H => ∃ acc, Up l H1 H ∧ Tup K Hs H ∧ Fits l (pt Γ j (some (pV (.ref p)))) σ H ∧ H p = some (.lst acc) ∧ AllP (Rs.take k) acc H
def TurnA (l : Option Addr) (j : Nat) (Γ : Ga) (g : TG) (tb : TS) (D : Ends) (P R : Pd) : Prop := ∀ (p : Addr) (acc : List V) (x : V) (σ : L2.St) (H : Hp) (N : L2.St → Hp → Prop), (∀ a, l = some a → p ≠ a) → Fits l (pt Γ j (some (pV (.ref p)))) σ H → Box l P x H → H p = some (.lst acc) → acc.length ≤ 1000 →
  (∀ y σ' H4, Up l H H4 → Fits l (pt Γ j (some (pV (.ref p)))) σ' H4 → Box l R y H4 → H4 p = some (.lst acc) → N σ' (upd H4 p (.lst (acc ++ [y])))) → g x σ H fun σ2 H2 => tb { D with nx := N, ct := N, bk := D.nx } σ2 H2
theorem acc_step {k : Nat} {x : V} {σ : L2.St} {H H' : Hp} (me : MoE K Γ) [m : MoTA K Rs] (lo : Lo l H1) (n : H1 p = none) (small : Rs.length ≤ 1000) (hR : Rs[k]? = some R) (T : TurnA l j Γ g tb D P R) (a : Acc l K j p Γ Rs H1 Hs k σ H) (s : Same H H') (b : Box l P x H') :
    g x σ H' fun σ2 H2 => tb { D with nx := Acc l K j p Γ Rs H1 Hs (k + 1), ct := Acc l K j p Γ Rs H1 Hs (k + 1), bk := D.nx } σ2 H2 := by
  obtain ⟨acc, u, tu, f, e, q⟩ := a
  have us := Up.same f.1 s
  have la := AllP.len q
  have np := fresh_ne lo n
  refine T p acc x σ H' _ np (f.up us) b (s _ _ e) ?_ fun y σ' H4 u4 f4 b4 e4 => ?_
  · rw [la, List.length_take]
    omega
  · have u5 : Up l H1 (upd H4 p (.lst (acc ++ [y]))) := Up.mut ((u.trans us).trans u4) n np
    have hM : MoTL K (Rs.take k) := motl_of fun P hp => m.all P (List.mem_of_mem_take hp)
    have hMR : MoT K R := m.all R (List.mem_of_getElem? hR)
    have := MoE.pt (P := pV (.ref p)) (j := j) me
    refine ⟨_, u5, ((tu.trans (Tup.same s)).trans (Tup.up us.lo u4)).trans (Tup.lst e4), f4.tup (K := K) u5.lo (Tup.lst e4), upd_same, ?_⟩
    rw [take_at hR]
    exact AllP.snoc (hM.mo _ _ _ (((Tup.same s).trans (Tup.up us.lo u4)).trans (Tup.lst e4)) q) (hMR.mo _ _ _ (Tup.lst e4) (Box.now f4.1 b4))
theorem acc_end {H : Hp} {σ : L2.St} (me : MoE K Γ) [m : MoTA K Rs] (np : ∀ a, l = some a → p ≠ a) {n : Nat} (hn : Rs.length ≤ n) (a : Acc l K j p Γ Rs H1 Hs n σ H) (q : Fits l (pt Γ j (some (pLg l K Rs))) σ H → D.nx σ H) : D.nx σ H := by
  obtain ⟨acc, u, _, f, e, qq⟩ := a
  refine q ?_
  have hM : MoTL K Rs := motl_of m.all
  rw [List.take_of_length_le hn] at qq
  have b : Box l (pLg l K Rs) (.ref p) H := fun H' u' => ⟨p, acc, rfl, np, Up.lst u' np e, hM.mo _ _ _ (Tup.up f.1 u') qq⟩
  refine ⟨f.1, ?_⟩
  have gen : ∀ (Γ : Ga) (j : Nat) (σ : L2.St), FitL l (pt Γ j (some (pV (.ref p)))) σ H → FitL l (pt Γ j (some (pLg l K Rs))) σ H := by
    intro Γ
    induction Γ with
    | nil => exact fun _ _ h => h
    | cons o Γ ih =>
      intro j σ h
      cases j with
      | zero =>
        cases σ with
        | nil => exact h.elim
        | cons z σ =>
          cases z with
          | none => exact h.elim
          | some v =>
            have e : v = .ref p := Box.now f.1 h.1
            subst e
            exact ⟨b, h.2⟩
      | succ j =>
        cases o with
        | none =>
          cases σ with
          | nil => exact h.elim
          | cons z σ =>
            have h' : FitL l (pt Γ j (some (pV (.ref p)))) σ H := h
            show FitL l (pt Γ j (some (pLg l K Rs))) σ H
            exact ih j σ h'
        | some Q =>
          cases σ with
          | nil => exact h.elim
          | cons z σ =>
            cases z with
            | none => exact h.elim
            | some v => exact ⟨h.1, ih j σ h.2⟩
  exact gen Γ j σ f.2
theorem Box.tup {H H' : Hp} {v : V} [mt : MoT K P] (lo : Lo l H) (lo' : Lo l H') (u : Tup K H H') (b : Box l P v H) : Box l P v H' := fun H'' u'' => mt.mo v H H'' (u.trans (Tup.up lo' u'')) (Box.now lo b)
/-- found = []; for x in ..: the parts that are alike -/
theorem acc_open {wi : TI} (k : ∀ p σ' H', H' p = some (.lst []) → (∀ a, l = some a → p ≠ a) → ∀ H1, H1 p = none → Lo l H1 → Up l H0 H1 → Up l H1 H' → Fits l (pt Γ j (some (pV (.ref p)))) σ' H' → tFor wi g tb { D with nx := t D } σ' H') : Run l H0 (tSeq (tAsg (tLst tNil) (gName j)) (tSeq (tFor wi g tb) t)) D Γ := fun σ H u f => by
  refine ⟨Nat.zero_le _, fun p np => ?_⟩
  have u1 : Up l H (upd H p (.lst [])) := Up.same f.1 (Same.new np)
  exact k p _ _ upd_same (fresh_ne f.1 np) H np f.1 u u1 ((f.up u1).put (box_of u1.lo rfl))
/-- .. in a tuple -/
theorem r_accT (me : MoE K Γ) [m : MoTA K Rs] [mp : MoTA K Ps] [mm : MoL l Ps] (hs : ∀ p, EvG l te (pt Γ j (some (pV (.ref p)))) (pT K Ps)) (hl : Ps.length = Rs.length) (small : Rs.length ≤ 1000) (h : ∀ (k : Nat) (P R : Pd), Ps[k]? = some P → Rs[k]? = some R → TurnA l j Γ g tb { D with nx := t D } P R)
    (after : Run l H0 t D (pt Γ j (some (pLg l K Rs)))) : Run l H0 (tSeq (tAsg (tLst tNil) (gName j)) (tSeq (tFor (iTup K te) g tb) t)) D Γ := acc_open fun p σ1 Ha ea pn H np lo u u1 f1 => by
  refine hs p _ _ _ f1 fun v H2 u2 b2 => ?_
  obtain ⟨a, xs, e, s, q⟩ := Box.now u2.lo b2
  have bl := boxL_of (l := l) u2.lo q
  have lx := AllP.len q
  refine ⟨a, e, ⟨xs, s⟩, for_tup (K := K) (a := a) (xs := xs) (fun k σ' H' => Acc l K j p Γ Rs H H2 k σ' H') ⟨[], u1.trans u2, Tup.same (Same.refl _), f1.up u2, Up.lst u2 pn ea, trivial⟩ (fun k σ' H' _ ⟨_, _, tu, _⟩ => Tup.sq tu a xs s) (fun k x σ' H' hx hp => ?_) fun σ' H' hp => ?_⟩
  · have hk : k < xs.length := (List.getElem?_eq_some_iff.mp hx).1
    have hP : Ps[k]? = some Ps[k] := List.getElem?_eq_getElem (by omega)
    have hR : Rs[k]? = some Rs[k] := List.getElem?_eq_getElem (by omega)
    have bx : Box l Ps[k] x H2 := BoxL.at bl hP hx
    have := mp.all _ (List.mem_of_getElem? hP)
    refine acc_step me lo np small hR (h k _ _ hP hR) hp (Same.refl _) ?_
    obtain ⟨_, u', tu, _⟩ := hp
    exact Box.tup (K := K) u2.lo u'.lo tu bx
  · have u3 := hp.choose_spec.1
    exact acc_end (D := { D with nx := t D }) me pn (n := xs.length) (by omega) hp fun f' => after _ _ (u.trans u3) f'
/-- a list made on the way -/
def EvN (l : Option Addr) (te : TE) (Γ : Ga) (Ps : List Pd) : Prop := ∀ σ H Q, Fits l Γ σ H → (∀ q vs H', Up l H H' → BoxL l Ps vs H' → H' q = none → Q (.ref q) (upd H' q (.lst vs))) → te σ H Q
theorem n_lst (h : EvA l ta Γ Ps) (small : Ps.length ≤ 1000 := by first | decide | simp) : EvN l (tLst ta) Γ Ps := fun σ H Q f q => h σ H _ f fun vs H' u b => by
  have len := AllP.len (BoxL.now u.lo b)
  exact ⟨Nat.le_of_lt (small1000 (by omega)), fun p np => q p vs H' u b np⟩
theorem n_if {tt : TT} {t1 t2 : TE} {b : Bool} (h : EvT l tt Γ b) (h1 : b = true → EvN l t1 Γ Ps) (h2 : b = false → EvN l t2 Γ Ps) : EvN l (tIf tt t1 t2) Γ Ps := fun σ H Q f q => h σ H _ f fun H1 u => by
  cases b with
  | true =>
    rw [if_pos rfl]
    exact h1 rfl σ H1 Q (f.up u) fun p vs H2 u2 b2 n => q p vs H2 (u.trans u2) b2 n
  | false =>
    rw [if_neg Bool.false_ne_true]
    exact h2 rfl σ H1 Q (f.up u) fun p vs H2 u2 b2 n => q p vs H2 (u.trans u2) b2 n
theorem e_lst (h : EvN l te Γ Ps) [mm : MoL l Ps] : EvG l te Γ (pLg l K Ps) := fun σ H Q f q => h σ H Q f fun p vs H' u b n => by
  have u2 : Up l H' (upd H' p (.lst vs)) := Up.same u.lo (Same.new n)
  exact q _ _ (u.trans u2) (box_of u2.lo ⟨p, vs, rfl, fresh_ne u.lo n, upd_same, BoxL.now u2.lo (BoxL.up u2 b)⟩)
theorem e_lstL {Ps : List Pd} (h : EvN none te Γ Ps) [mm : MoL none Ps] : EvG none te Γ (pL K Ps) := (e_lst (K := K) h).imp fun v H p => pLg_L p
/-- .. in a list made on the way -/
theorem r_accL (me : MoE K Γ) [m : MoTA K Rs] [mp : MoTA K Ps] [mm : MoL l Ps] (hs : ∀ p, EvN l te (pt Γ j (some (pV (.ref p)))) Ps) (hl : Ps.length = Rs.length) (small : Rs.length ≤ 1000) (h : ∀ (k : Nat) (P R : Pd), Ps[k]? = some P → Rs[k]? = some R → TurnA l j Γ g tb { D with nx := t D } P R)
    (after : Run l H0 t D (pt Γ j (some (pLg l K Rs)))) : Run l H0 (tSeq (tAsg (tLst tNil) (gName j)) (tSeq (tFor (iList K te) g tb) t)) D Γ := acc_open fun p σ1 Ha ea pn H np lo u u1 f1 => by
  refine hs p _ _ _ f1 fun a xs H2 u2 b2 na => ?_
  have q := BoxL.now u2.lo b2
  have u7 : Up l H2 (upd H2 a (.lst xs)) := Up.same u2.lo (Same.new na)
  have lx := AllP.len q
  have ep : H2 p = some (.lst []) := Up.lst u2 pn ea
  have nap : a ≠ p := fun z => by
    rw [z, ep] at na
    cases na
  refine ⟨a, rfl, ⟨xs, SqL.of upd_same⟩, for_list (K := K) (a := a) (xs := xs) (fun k σ' H' => H' a = some (.lst xs) ∧ Acc l K j p Γ Rs H (upd H2 a (.lst xs)) k σ' H') ⟨upd_same, [], (u1.trans u2).trans u7, Tup.same (Same.refl _), (f1.up u2).up u7, by rw [upd_ne (Ne.symm nap)]; exact ep, trivial⟩ (fun k σ' H' _ hp => SqL.of hp.1) (fun k x σ' H' hx hp => ?_) fun σ' H' hp => ?_⟩
  · have hk : k < xs.length := (List.getElem?_eq_some_iff.mp hx).1
    have hP : Ps[k]? = some Ps[k] := List.getElem?_eq_getElem (by omega)
    have hR : Rs[k]? = some Rs[k] := List.getElem?_eq_getElem (by omega)
    have bx : Box l Ps[k] x _ := Box.up u7 (BoxL.at b2 hP hx)
    have := mp.all _ (List.mem_of_getElem? hP)
    obtain ⟨ea', A⟩ := hp
    obtain ⟨acc, u', tu, f', e', q'⟩ := A
    have la := AllP.len q'
    have ana := fresh_ne u2.lo na
    refine h k _ _ hP hR p acc x σ' H' _ pn f' (Box.tup (K := K) u7.lo u'.lo tu bx) e' (by rw [la, List.length_take]; omega) fun y σ4 H4 u4 f4 b4 e4 => ?_
    have u5 : Up l H (upd H4 p (.lst (acc ++ [y]))) := Up.mut (u'.trans u4) np pn
    have hM : MoTL K (Rs.take k) := motl_of fun P hp => m.all P (List.mem_of_mem_take hp)
    have hMR : MoT K Rs[k] := m.all _ (List.mem_of_getElem? hR)
    have := MoE.pt (P := pV (.ref p)) (j := j) me
    refine ⟨?_, _, u5, (tu.trans (Tup.up u'.lo u4)).trans (Tup.lst e4), f4.tup (K := K) u5.lo (Tup.lst e4), upd_same, ?_⟩
    · rw [upd_ne nap]
      exact Up.lst u4 ana ea'
    · rw [take_at hR]
      exact AllP.snoc (hM.mo _ _ _ ((Tup.up u'.lo u4).trans (Tup.lst e4)) q') (hMR.mo _ _ _ (Tup.lst e4) (Box.now f4.1 b4))
  · have u3 := hp.2.choose_spec.1
    exact acc_end (D := { D with nx := t D }) me pn (n := xs.length) (by omega) hp.2 fun f' => after _ _ (u.trans u3) f'
/-- .. in range(n) -/
theorem r_accR {n : Nat} (me : MoE K Γ) [m : MoTA K Rs] (hs : ∀ p, EvA l ta (pt Γ j (some (pV (.ref p)))) [pV (.int (n : Int))]) (hl : n = Rs.length) (small : Rs.length ≤ 1000) (h : ∀ (k : Nat) (R : Pd), Rs[k]? = some R → TurnA l j Γ g tb { D with nx := t D } (pV (.int (k : Int))) R)
    (after : Run l H0 t D (pt Γ j (some (pLg l K Rs)))) : Run l H0 (tSeq (tAsg (tLst tNil) (gName j)) (tSeq (tFor (iRng1 ta) g tb) t)) D Γ := acc_open fun p σ1 Ha ea pn H np lo u u1 f1 => by
  refine hs p _ _ _ f1 fun vs H2 u2 b2 => ?_
  obtain ⟨x, rfl, e⟩ := AllP.one (BoxL.now u2.lo b2)
  have e : x = .int (n : Int) := e
  subst e
  refine ⟨n, rfl, by omega, by omega, for_range (lo := 0) (n := (n : Int).toNat) (fun k σ' H' => Acc l K j p Γ Rs H H2 k σ' H') ⟨[], u1.trans u2, Tup.same (Same.refl _), f1.up u2, Up.lst u2 pn ea, trivial⟩ (fun k σ' H' hk hp => ?_) fun σ' H' hp => ?_⟩
  · have hk : k < Rs.length := by omega
    have hR : Rs[k]? = some Rs[k] := List.getElem?_eq_getElem hk
    obtain ⟨_, u', _⟩ := id hp
    exact acc_step me lo np small hR (h k _ hR) hp (Same.refl _) (box_of u'.lo (show V.int (0 + (k : Int)) = V.int (k : Int) by rw [Int.zero_add]))
  · have u3 := hp.choose_spec.1
    exact acc_end (D := { D with nx := t D }) me pn (n := (n : Int).toNat) (by omega) hp fun f' => after _ _ (u.trans u3) f'
/-- two tuples at once -/
theorem for_zipT {a b : Addr} {xs ys : List V} {σ : L2.St} {H : Hp} (hl : xs.length = ys.length) (Pv : Nat → L2.St → Hp → Prop) (h0 : Pv 0 σ H) (hq : ∀ i σ H, Pv i σ H → SqT K H a xs ∧ SqT K H b ys)
    (hs : ∀ i x y T σ H, xs[i]? = some x → ys[i]? = some y → Pv i σ H → H T = none → g (.ref T) σ (upd H T (.tup [x, y])) fun σ2 H2 => tb { D with nx := Pv (i + 1), ct := Pv (i + 1), bk := D.nx } σ2 H2) (hd : ∀ σ H, Pv xs.length σ H → D.nx σ H) :
    ∃ W : Nat → Nat → L2.St → Hp → Prop, (∃ m, W 0 m σ H) ∧ ∀ i m σ H, W i m σ H →
      ((ItzT K a b).stop i H ∧ D.nx σ H) ∨ ((ItzT K a b).go i H ∧ ∃ N : L2.St → Hp → Prop, (∀ σ' H', N σ' H' → ∃ m', m' < m ∧ W (i + 1) m' σ' H') ∧ ∀ x H', (ItzT K a b).yld i H x H' → g x σ H' fun σ2 H2 => tb { D with nx := N, ct := N, bk := D.nx } σ2 H2) := by
  refine ⟨fun i m σ H => m = xs.length - i ∧ i ≤ xs.length ∧ Pv i σ H, ⟨xs.length, rfl, Nat.zero_le _, h0⟩, ?_⟩
  rintro i m σ H ⟨em, hi, p⟩
  obtain ⟨qx, qy⟩ := hq i σ H p
  by_cases hlt : i < xs.length
  · have hx : xs[i]? = some xs[i] := List.getElem?_eq_getElem hlt
    have hlt2 : i < ys.length := by omega
    have hy : ys[i]? = some ys[i] := List.getElem?_eq_getElem hlt2
    refine .inr ⟨⟨xs, ys, _, _, qx, qy, hx, hy⟩, Pv (i + 1), fun σ' H' p' => ⟨xs.length - (i + 1), by omega, rfl, hlt, p'⟩, fun v H' y => ?_⟩
    obtain ⟨T, x', y', rfl, hT, rfl, f1, f2⟩ := y
    exact hs i x' y' T σ H (f1 xs qx) (f2 ys qy) p hT
  · have e : i = xs.length := by omega
    subst e
    exact .inl ⟨⟨xs, ys, qx, qy, Or.inl (Nat.le_refl _)⟩, hd σ H p⟩
/-- .. in the pairs of two tuples -/
theorem r_accZ (me : MoE K Γ) [m : MoTA K Rs] [mp : MoTA K Ps] [mq : MoTA K Qs] [mm : MoL l Ps] [mn : MoL l Qs] (hs : ∀ p, EvA l ta (pt Γ j (some (pV (.ref p)))) [pT K Ps, pT K Qs]) (hl : Ps.length = Qs.length) (hr : Ps.length = Rs.length) (small : Rs.length ≤ 1000)
    (h : ∀ (k : Nat) (P Q R : Pd), Ps[k]? = some P → Qs[k]? = some Q → Rs[k]? = some R → TurnA l j Γ g tb { D with nx := t D } (pT K [P, Q]) R)
    (after : Run l H0 t D (pt Γ j (some (pLg l K Rs)))) : Run l H0 (tSeq (tAsg (tLst tNil) (gName j)) (tSeq (tFor (iZipA K ta) g tb) t)) D Γ := acc_open fun p σ1 Ha ea pn H np lo u u1 f1 => by
  refine hs p _ _ _ f1 fun ws H2 u2 b2 => ?_
  obtain ⟨v1, v2, rfl, ⟨a, xs, e1, s1, p1⟩, ⟨b, ys, e2, s2, p2⟩⟩ := AllP.two (BoxL.now u2.lo b2)
  have lx := AllP.len p1
  have ly := AllP.len p2
  have bx := boxL_of (l := l) u2.lo p1
  have by_ := boxL_of (l := l) u2.lo p2
  subst e1 e2
  refine ⟨a, b, xs, ys, rfl, .inr ⟨s1, s2, for_zipT (K := K) (by omega) (fun k σ' H' => Acc l K j p Γ Rs H H2 k σ' H') ⟨[], u1.trans u2, Tup.same (Same.refl _), f1.up u2, Up.lst u2 pn ea, trivial⟩ (fun k σ' H' ⟨_, _, tu, _⟩ => ⟨Tup.sq tu a xs s1, Tup.sq tu b ys s2⟩) (fun k x y T σ' H' hx hy hp nT => ?_) fun σ' H' hp => ?_⟩⟩
  · have hk : k < xs.length := (List.getElem?_eq_some_iff.mp hx).1
    have hP : Ps[k]? = some Ps[k] := List.getElem?_eq_getElem (by omega)
    have hQ : Qs[k]? = some Qs[k] := List.getElem?_eq_getElem (by omega)
    have hR : Rs[k]? = some Rs[k] := List.getElem?_eq_getElem (by omega)
    have m1 := mp.all _ (List.mem_of_getElem? hP)
    have m2 := mq.all _ (List.mem_of_getElem? hQ)
    have sT : Same H' (upd H' T (.tup [x, y])) := Same.new nT
    refine acc_step me lo np small hR (h k _ _ _ hP hQ hR) hp sT ?_
    obtain ⟨_, u', tu, _⟩ := hp
    have u6 := Up.same u'.lo sT
    have b1 : Box l Ps[k] x _ := Box.tup (K := K) u2.lo u6.lo (tu.trans (Tup.same sT)) (BoxL.at bx hP hx)
    have b2 : Box l Qs[k] y _ := Box.tup (K := K) u2.lo u6.lo (tu.trans (Tup.same sT)) (BoxL.at by_ hQ hy)
    exact fun H'' u'' => ⟨T, [x, y], rfl, Up.tup u6.lo u'' (.inl (.inl upd_same)), b1 H'' u'', b2 H'' u'', trivial⟩
  · have u3 := hp.choose_spec.1
    exact acc_end (D := { D with nx := t D }) me pn (n := xs.length) (by omega) hp fun f' => after _ _ (u.trans u3) f'
/-- a turn over one name -/
theorem turnA1 (h : ∀ (p : Addr) (acc : List V) (H : Hp) (D' : Ends), (∀ a, l = some a → p ≠ a) → H p = some (.lst acc) → acc.length ≤ 1000 → (∀ y σ' H4, Up l H H4 → Fits l (pt Γ j (some (pV (.ref p)))) σ' H4 → Box l R y H4 → H4 p = some (.lst acc) → D'.nx σ' (upd H4 p (.lst (acc ++ [y])))) →
    Run l H tb D' (pt (pt Γ j (some (pV (.ref p)))) i (some P))) : TurnA l j Γ (gName i) tb D P R := fun p acc x σ H N np f b e small q =>
  h p acc H { D with nx := N, ct := N, bk := D.nx } np e small q _ H (Up.refl f.1) (f.put b)
theorem turnA2 {i2 : Nat} {P2 : Pd} [MoL l [P, P2]] (h : ∀ (p : Addr) (acc : List V) (H : Hp) (D' : Ends), (∀ a, l = some a → p ≠ a) → H p = some (.lst acc) → acc.length ≤ 1000 → (∀ y σ' H4, Up l H H4 → Fits l (pt Γ j (some (pV (.ref p)))) σ' H4 → Box l R y H4 → H4 p = some (.lst acc) → D'.nx σ' (upd H4 p (.lst (acc ++ [y])))) →
    Run l H tb D' (pt (pt (pt Γ j (some (pV (.ref p)))) i (some P)) i2 (some P2))) : TurnA l j Γ (gTup K 2 (gCons (gName i) (gCons (gName i2) gNil))) tb D (pT K [P, P2]) R := fun p acc x σ H N np f b e small q =>
  g_tup rfl (gs_cons g_name (gs_cons g_name gs_nil)) x σ H _ f b fun σ' f' => h p acc H { D with nx := N, ct := N, bk := D.nx } np e small q σ' H (Up.refl f'.1) f'
/-- found.append(e), the turn's end -/
theorem r_app {H : Hp} {D' : Ends} {acc : List V} {telt : TE} {Δ : Ga} (hj : gt Γ j = some (pV (.ref p))) (np : ∀ a, l = some a → p ≠ a) (hp : H p = some (.lst acc)) (small : acc.length ≤ 1000) (w : Wk Γ Δ) (he : EvG l telt Γ R)
    (q : ∀ y σ' H4, Up l H H4 → Fits l Δ σ' H4 → Box l R y H4 → H4 p = some (.lst acc) → D'.nx σ' (upd H4 p (.lst (acc ++ [y])))) : Run l H (tDrop (tBM K "list" rAppend (tVar j) (tCons telt tNil))) D' Γ := fun σ H2 u f =>
  app_run f hj np (Up.lst u np hp) small he fun y H4 u4 b4 e4 => q y σ H4 (u.trans u4) ((f.up u4).weak w) b4 e4
end
/-! ### a zip held by a name -/
theorem FitL.len {l : Option Addr} {H : Hp} : ∀ {Γ : Ga} {σ : L2.St}, FitL l Γ σ H → σ.length = Γ.length
  | [], [], _ => rfl
  | [], _ :: _, h => h.elim
  | none :: _, [], h => h.elim
  | some _ :: _, [], h => h.elim
  | some _ :: _, none :: _, h => h.elim
  | none :: Γ, _ :: σ, h => by
    have h' : FitL l Γ σ H := h
    exact congrArg (· + 1) (FitL.len h')
  | some _ :: _, some _ :: _, h => congrArg (· + 1) (FitL.len h.2)
section
variable {K : PySem.W.Frag} {Pg : Program} {w : World} {n i j : Nat} {Γ : Ga} {Ps Qs Rs : List Pd} {H0 : Hp} {D : Ends} {g : TG} {t : TS} {telt : TE} {ta : TA} {vs : List Nat}
/-- pairs = zip(..); ends = [.. for .. in pairs] -/
theorem r_zipLc [m : MoTA K Rs] [mm : MoL none Ps] [mq : MoL none Qs] (hs : EvA none ta Γ [pT K Ps, pT K Qs]) (hi : i < Γ.length) (hl : Ps.length = Qs.length) (hr : Ps.length = Rs.length) (small : Rs.length ≤ 1000)
    (h : ∀ (k : Nat) (P Q R : Pd), Ps[k]? = some P → Qs[k]? = some Q → Rs[k]? = some R → Turn1 g telt vs (pt Γ i none) (pT K [P, Q]) R)
    (after : Run none H0 t D (pt (pt Γ i none) j (some (pL K Rs)))) : Run none H0 (tSeq (tAsg (tZipV Pg w K n ta) (gName i)) (tSeq (tAsg (tLc (iZipV Pg w K n i) g tYes telt vs) (gName j)) t)) D Γ := fun σ H u f =>
  hs σ H _ f fun ws H1 u1 b1 => by
    obtain ⟨v1, v2, rfl, ⟨a, xs, e1, s1, p1⟩, ⟨b, ys, e2, s2, p2⟩⟩ := AllP.two (BoxL.now u1.lo b1)
    have lx := AllP.len p1
    have ly := AllP.len p2
    have bx := boxL_of (l := none) u1.lo p1
    have by_ := boxL_of (l := none) u1.lo p2
    subst e1 e2
    refine ⟨a, b, xs, ys, rfl, s1, s2, fun z fp H2 free s12 za => ?_⟩
    have s13 : Same H1 (drpE H2 fp) := fun c o e => by
      have nc : c ∉ fp := fun q => by
        rw [free c q] at e
        cases e
      unfold drpE
      rw [if_neg nc]
      exact s12 c o e
    have ls := FitL.len f.2
    have f3 : Fits none (pt Γ i none) (σ.set i (some (.ref z))) (drpE H2 fp) := ⟨trivial, FitL.out ((f.up u1).up (l := none) s13).2⟩
    refine ⟨z, fp, a, b, by rw [List.getElem?_set_self (by omega)], za, fun D' nD => lc_zipT (by omega) (fun i H => Same (drpE H2 fp) H ∧ ∃ acc, H D' = some (.lst acc) ∧ AllP (Rs.take i) acc H) ⟨Same.new nD, [], upd_same, trivial⟩ (fun i H hp => ⟨Same.sqT (s13.trans hp.1) s1, Same.sqT (s13.trans hp.1) s2⟩) (fun k x y T H hx hy hp nT => ?_) fun H hp => ?_⟩
    · obtain ⟨s, acc, eD, hacc⟩ := hp
      have hi : k < xs.length := (List.getElem?_eq_some_iff.mp hx).1
      have hP : Ps[k]? = some Ps[k] := List.getElem?_eq_getElem (by omega)
      have hQ : Qs[k]? = some Qs[k] := List.getElem?_eq_getElem (by omega)
      have hR : Rs[k]? = some Rs[k] := List.getElem?_eq_getElem (by omega)
      have sT : Same H (upd H T (.tup [x, y])) := Same.new nT
      have hM : MoTL K (Rs.take k) := motl_of fun P hp => m.all P (List.mem_of_mem_take hp)
      refine lc_turn (K := K) f3 hR (h k _ _ _ hP hQ hR) nD (s.trans sT) (fun H' u' => ?_) (sT _ _ eD) (hM.mo _ _ _ (Tup.same sT) hacc) small
      exact ⟨T, [x, y], rfl, .inl (.inl (u' _ _ upd_same)), BoxL.at bx hP hx H' (s13.trans ((s.trans sT).trans u')), BoxL.at by_ hQ hy H' (s13.trans ((s.trans sT).trans u')), trivial⟩
    · exact lc_end (K := K) (Rs := Rs) (H1 := drpE H2 fp) (n := xs.length) (by omega) (fun v H' u' b => after _ H' (u.trans (Up.trans (l := none) u1 (s13.trans u'))) ((f3.up (l := none) u').put b)) hp
/-- two and three items -/
theorem zip2 {F : Nat → Pd → Pd → Pd → Prop} {P0 P1 Q0 Q1 R0 R1 : Pd} (h0 : F 0 P0 Q0 R0) (h1 : F 1 P1 Q1 R1) : ∀ (k : Nat) (P Q R : Pd), [P0, P1][k]? = some P → [Q0, Q1][k]? = some Q → [R0, R1][k]? = some R → F k P Q R := fun k P Q R a b c => by
  match k, a, b, c with
  | 0, a, b, c =>
    cases a
    cases b
    cases c
    exact h0
  | 1, a, b, c =>
    cases a
    cases b
    cases c
    exact h1
  | k + 2, a, b, c => simp at a
theorem zip3 {F : Nat → Pd → Pd → Pd → Prop} {P0 P1 P2 Q0 Q1 Q2 R0 R1 R2 : Pd} (h0 : F 0 P0 Q0 R0) (h1 : F 1 P1 Q1 R1) (h2 : F 2 P2 Q2 R2) : ∀ (k : Nat) (P Q R : Pd), [P0, P1, P2][k]? = some P → [Q0, Q1, Q2][k]? = some Q → [R0, R1, R2][k]? = some R → F k P Q R := fun k P Q R a b c => by
  match k, a, b, c with
  | 0, a, b, c =>
    cases a
    cases b
    cases c
    exact h0
  | 1, a, b, c =>
    cases a
    cases b
    cases c
    exact h1
  | 2, a, b, c =>
    cases a
    cases b
    cases c
    exact h2
  | k + 3, a, b, c => simp at a
end
end K30

/-! text: KRound -/
set_option Elab.async false
set_option linter.all false
set_option maxRecDepth 100000
set_option maxHeartbeats 4000000
namespace K30
open PySem PySem.Spec PyProof.Rows L2 K30M
section
variable {P : Program} {w : World} {K : PySem.W.Frag} {mg : Str → Option Value} {base : Heap}
instance MoL.map {l : Option Addr} {α : Type} {f : α → Pd} [m : ∀ x, Mo l (f x)] : ∀ {xs : List α}, MoL l (xs.map f)
  | [] => inferInstanceAs (MoL l [])
  | x :: xs => by
    have := MoL.map (f := f) (l := l) (xs := xs)
    exact inferInstanceAs (MoL l (f x :: xs.map f))
instance MoTA.map {K : PySem.W.Frag} {α : Type} {f : α → Pd} [m : ∀ x, MoT K (f x)] {xs : List α} : MoTA K (xs.map f) := ⟨fun P h => by
  obtain ⟨x, _, e⟩ := List.mem_map.mp h
  rw [← e]
  exact m x⟩
theorem map2 {α : Type} {f g : α → Pd} {xs : List α} {k : Nat} {P R : Pd} (h1 : (xs.map f)[k]? = some P) (h2 : (xs.map g)[k]? = some R) : ∃ x ∈ xs, P = f x ∧ R = g x := by
  rw [List.getElem?_map] at h1 h2
  cases e : xs[k]? with
  | none =>
    rw [e] at h1
    cases h1
  | some x =>
    rw [e] at h1 h2
    cases h1
    cases h2
    exact ⟨x, List.mem_of_getElem? e, rfl, rfl⟩
theorem t3_bd {l : Option Addr} {Γ : Ga} {K : PySem.W.Frag} {te : TE} {x y z x' y' z' : Rat} {m n o m' n' o' : Nat} (h : EvG l te Γ (pT K [pQ K m x, pQ K n y, pQ K o z])) (e1 : x = x') (e2 : y = y') (e3 : z = z') (b1 : Bd m' x') (b2 : Bd n' y') (b3 : Bd o' z') : EvG l te Γ (pT K [pQ K m' x', pQ K n' y', pQ K o' z']) := by
  subst e1 e2 e3
  exact h.imp fun v H ⟨a, vs, e, s, p⟩ => by
    obtain ⟨u, w, t, rfl, p1, p2, p3⟩ := AllP.three p
    exact ⟨a, _, e, s, ⟨b1, p1.2⟩, ⟨b2, p2.2⟩, ⟨b3, p3.2⟩, trivial⟩
/-- a point with parts c0, s0 and factors c1, s1 of the root of z -/
abbrev pP0 (K : PySem.W.Frag) (c0 c1 s0 s1 z : Rat) : Pd := pPt K (pT K [pQ K 709 c0, pQ K 592 c1]) (pT K [pQ K 709 s0, pQ K 592 s1]) (pQ K 710 z)
abbrev pR (K : PySem.W.Frag) (n : Nat) (x y z : Rat) : Pd := pT K [pQ K n x, pQ K n y, pQ K n z]
/-! Point_sign_of_row -/
def sp_Point_sign_of_row (K : PySem.W.Frag) : Sp := fun vs H Q _ => ∃ (c0 c1 s0 s1 z rk rl rm t : Rat), (0 ≤ t ∧ (rl * c1 + rm * s1) * (rl * c1 + rm * s1) * z = t * t) ∧ AllP [pP0 K c0 c1 s0 s1 z, pR K 118 rk rl rm] vs H ∧ ∀ v H', Same H H' → (pV (.int (sg (rk + (rl * c0 + rm * s0) + (sg (rl * c1 + rm * s1) : Rat) * t))) : Pd) v H' → Q v H'
theorem len_Point_sign_of_row {vs : List V} {H : Hp} {Q : VK} {E : XK} (h : sp_Point_sign_of_row K vs H Q E) : vs.length = 2 := by
  obtain ⟨_, _, _, _, _, _, _, _, _, _, pp, _⟩ := h
  exact AllP.len pp
theorem e_Point_sign_of_row {l : Option Addr} {Γ : Ga} {t0 t1 : TE} {c0 c1 s0 s1 z rk rl rm t : Rat}  (h0 : EvG l t0 Γ (pP0 K c0 c1 s0 s1 z)) (h1 : EvG l t1 Γ (pR K 118 rk rl rm)) (hc : 0 ≤ t ∧ (rl * c1 + rm * s1) * (rl * c1 + rm * s1) * z = t * t) : EvG l (tCall (sp_Point_sign_of_row K) [] E0 (tCons t0 (tCons t1 tNil))) Γ (pV (.int (sg (rk + (rl * c0 + rm * s0) + (sg (rl * c1 + rm * s1) : Rat) * t)))) := e_call (fun _ _ _ pp kk => ⟨c0, c1, s0, s1, z, rk, rl, rm, t, hc, pp, kk⟩) (a_cons h0 (a_cons h1 a_nil))
theorem sc_Point_sign_of_row : FnScope ["self", "row", "pairs", "ends", "cosine", "sine"] ["self", "row"] (defScope s_Point_sign_of_row) := ⟨rfl, rfl, rfl, by decide +kernel, rfl, by decide +kernel, by decide +kernel⟩
theorem ok_Point_sign_of_row (T : Txt K mg) : FnM P w K mg base 5 (He.ma K (He.ga K "Point") "sign_of_row") ["self", "row"] (sp_Point_sign_of_row K) := by
  refine fnM_mk T 38 rfl sc_Point_sign_of_row (fun vs H Q E h => len_Point_sign_of_row h) (fun _ _ _ _ _ _ us hl => match us, hl with | [_, _], _ => rfl) (fun f cdv A outer s H vs Q E hr h => ?_)
  obtain ⟨c0, c1, s0, s1, z, rk, rl, rm, t, hc, hp, k⟩ := h
  refine ⟨_, (pss_cons (ps_set (i := 2) sc_Point_sign_of_row.nd rfl (Or.inl rfl) (pe_zipV rfl (T.free 112 rfl) (pa_cons (pe_fld (pv 0) rfl) (pa_cons (pe_fld (pv 0) rfl) pa_nil))))
      (pss_cons (ps_setLc (i := 3) (own := [("cosine", 4), ("sine", 5)]) (g := (gTup K 2 (gCons (gName 4) (gCons (gName 5) gNil)))) (tt := tYes) rfl sc_Point_sign_of_row.nd rfl rfl (sw_true rfl rfl rfl (by decide +kernel)) (pi_zipV (k := 2) rfl (by first | exact Or.inl rfl | exact Or.inr (Or.inl rfl) | exact Or.inr (Or.inr rfl))) (blkOk_by (own := [("cosine", 4), ("sine", 5)]) (N := ["self", "row", "pairs", "ends", "cosine", "sine"]) (sc := defScope s_Point_sign_of_row) (by decide +kernel)) (fun _ _ _ _ _ => (pg_tup rfl (pgs_cons (pg_name (i := 4) sc_Point_sign_of_row.nd rfl (by first | exact Or.inl rfl | exact Or.inr rfl)) (pgs_cons (pg_name (i := 5) sc_Point_sign_of_row.nd rfl (by first | exact Or.inl rfl | exact Or.inr rfl)) pgs_nil)))) (fun _ _ _ _ _ => pts_nil) (fun _ _ _ _ _ => (pe_fn (ok_ratio_sum T) (hr.mono (by decide)) (pa_cons (pe_fn (ok_ratio_product T) (hr.mono (by decide)) (pa_cons (pe_ix (show IxR _ (rIxT K) from ix_tup) (pv 1) pe_int (fun _ _ => rfl)) (pa_cons (pv 4) pa_nil))) (pa_cons (pe_fn (ok_ratio_product T) (hr.mono (by decide)) (pa_cons (pe_ix (show IxR _ (rIxT K) from ix_tup) (pv 1) pe_int (fun _ _ => rfl)) (pa_cons (pv 5) pa_nil))) pa_nil)))))
      (pss_one (ps_ret (pe_fn (ok_surd_sign T) (hr.mono (by decide)) (pa_cons (pe_fn (ok_surd_from T) (hr.mono (by decide)) (pa_cons (pe_fn (ok_ratio_sum T) (hr.mono (by decide)) (pa_cons (pe_ix ix_tup (pv 1) pe_int (fun _ _ => rfl)) (pa_cons (pe_ix ix_list (pv 3) pe_int (fun _ _ => rfl)) pa_nil))) (pa_cons (pe_ix ix_list (pv 3) pe_int (fun _ _ => rfl)) (pa_cons (pe_fld (pv 0) rfl) pa_nil)))) pa_nil)))))), ?_⟩
  refine (?_ : Run none H _ _ ([some (pP0 K c0 c1 s0 s1 z), some (pR K 118 rk rl rm), none, none, none, none] : Ga)) _ H (Same.refl H) (fits0 hp trivial rfl)
  refine r_zipLc (K := K) (Ps := [pQ K 709 c0, pQ K 592 c1]) (Qs := [pQ K 709 s0, pQ K 592 s1]) (Rs := [pQ K 1655 (rl * c0 + rm * s0), pQ K 1421 (rl * c1 + rm * s1)]) (a_cons (e_fldc T (e_var rfl)) (a_cons (e_flds T (e_var rfl)) a_nil)) (by simp) rfl rfl (by simp)
    (zip2 (turn1_two (by decide) ?_) (turn1_two (by decide) ?_))
    (r_done (e_surd_sign (e_surd_from (e_ratio_sum (e_at 0 (e_var rfl) rfl) (e_ixL (K := K) (i := 0) rfl (e_var rfl)) (by omega)) (e_ixL (K := K) (i := 1) rfl (e_var rfl)) (e_fldq T (e_var rfl)) ⟨hc.1, hc.2, by omega⟩) (by omega)) k)
  · exact e_ratio_sum (m := 118 + 709) (n := 118 + 709) (e_ratio_product (e_at 1 (e_var rfl) rfl) (e_var rfl) (by omega)) (e_ratio_product (e_at 2 (e_var rfl) rfl) (e_var rfl) (by omega)) (by omega)
  · exact e_ratio_sum (m := 118 + 592) (n := 118 + 592) (e_ratio_product (e_at 1 (e_var rfl) rfl) (e_var rfl) (by omega)) (e_ratio_product (e_at 2 (e_var rfl) rfl) (e_var rfl) (by omega)) (by omega)
theorem e_sign_row {Γ : Ga} {t0 t1 : TE} {c0 c1 s0 s1 z rk rl rm t : Rat} (h0 : EvG none t0 Γ (pP0 K c0 c1 s0 s1 z)) (h1 : EvG none t1 Γ (pR K 118 rk rl rm)) (hc : 0 ≤ t ∧ (rl * c1 + rm * s1) * (rl * c1 + rm * s1) * z = t * t) :
    EvG none (tMeth (He.ga K "Point") "sign_of_row" (sp_Point_sign_of_row K) [] E0 t0 (tCons t1 tNil)) Γ (pV (.int (sg (rk + (rl * c0 + rm * s0) + (sg (rl * c1 + rm * s1) : Rat) * t)))) := e_meth (PP := pV .non) (fun _ _ _ pp kk => ⟨c0, c1, s0, s1, z, rk, rl, rm, t, hc, pp, kk⟩) h0 (a_cons h1 a_nil)
def wsOf (b : Bool) : List Int := if b = true then [1, -1] else [1]
theorem wsOf_pm {b : Bool} : ∀ w ∈ wsOf b, w = 1 ∨ w = -1 := by
  cases b <;> simp [wsOf]
/-- the points of a row -/
abbrev pSpot (K : PySem.W.Frag) (k1 l1 m1 : Rat) (w : Int) : Pd := pP0 K (-((l1 * k1) / (l1 * l1 + m1 * m1))) (((w : Rat) * m1) / (l1 * l1 + m1 * m1)) (-((m1 * k1) / (l1 * l1 + m1 * m1))) ((-(w : Rat) * l1) / (l1 * l1 + m1 * m1)) ((l1 * l1 + m1 * m1) - k1 * k1)
def Spots (k1 l1 m1 : Rat) (ws : List Int) : Prop := (∀ w ∈ ws, w = 1 ∨ w = -1) ∧ (ws = [] ∨ 0 ≤ (l1 * l1 + m1 * m1) - k1 * k1)
theorem e_back {l : Option Addr} {Γ : Ga} {te : TE} {n : Nat} {w : Int} (h : EvG l te Γ (pQ K n ((-w : Int) : Rat))) : EvG l te Γ (pQ K n (-(w : Rat))) := q_is h (Rat.intCast_neg w)
/-! points_on -/
def sp_points_on (K : PySem.W.Frag) : Sp := fun vs H Q _ => ∃ (k1 l1 m1 : Rat), (¬ (l1 = 0 ∧ m1 = 0)) ∧ AllP [pR K 118 k1 l1 m1] vs H ∧ ∀ v H', Same H H' → (pX (Spots k1 l1 m1) fun ws => pL K (ws.map (pSpot K k1 l1 m1)) : Pd) v H' → Q v H'
theorem len_points_on {vs : List V} {H : Hp} {Q : VK} {E : XK} (h : sp_points_on K vs H Q E) : vs.length = 1 := by
  obtain ⟨_, _, _, _, pp, _⟩ := h
  exact AllP.len pp
theorem e_points_on {Γ : Ga} {t0 : TE} {k1 l1 m1 : Rat}  (h0 : EvG none t0 Γ (pR K 118 k1 l1 m1)) (hc : ¬ (l1 = 0 ∧ m1 = 0)) : EvG none (tCall (sp_points_on K) [] E0 (tCons t0 tNil)) Γ (pX (Spots k1 l1 m1) fun ws => pL K (ws.map (pSpot K k1 l1 m1))) := e_call (fun _ _ _ pp kk => ⟨k1, l1, m1, hc, pp, kk⟩) (a_cons h0 a_nil)
theorem sc_points_on : FnScope ["row", "k", "l", "m", "many", "square", "middle", "found", "way", "right", "up"] ["row"] (defScope s_points_on) := ⟨rfl, rfl, rfl, by decide +kernel, rfl, by decide +kernel, by decide +kernel⟩
theorem ok_points_on (T : Txt K mg) : Fn P w K mg base 5 "points_on" ["row"] (sp_points_on K) := by
  refine fn_mk T 39 37 rfl rfl sc_points_on (fun vs H Q E h => len_points_on h) (fun _ _ _ _ _ _ us hl => match us, hl with | [_], _ => rfl) (fun f cdv A outer s H vs Q E hr h => ?_)
  obtain ⟨k1, l1, m1, hc, hp, k⟩ := h
  have n0 : 0 < l1 * l1 + m1 * m1 := by
    have h1 := sq_nonneg l1
    have h2 := sq_nonneg m1
    have h3 : l1 * l1 + m1 * m1 ≠ 0 := fun z => hc (two_sq z)
    grind
  refine ⟨_, (pss_cons (ps_asg (pv 0) (pg_tup rfl (pgs_cons (pg_name (i := 1) sc_points_on.nd rfl (by first | exact Or.inl rfl | exact Or.inr rfl)) (pgs_cons (pg_name (i := 2) sc_points_on.nd rfl (by first | exact Or.inl rfl | exact Or.inr rfl)) (pgs_cons (pg_name (i := 3) sc_points_on.nd rfl (by first | exact Or.inl rfl | exact Or.inr rfl)) pgs_nil)))))
      (pss_cons (ps_set (i := 4) sc_points_on.nd rfl (Or.inl rfl) (pe_fn (ok_square_length T) (hr.mono (by decide)) (pa_cons (pe_tup (pa_cons (pv 2) (pa_cons (pv 3) pa_nil))) pa_nil)))
      (pss_cons (ps_set (i := 5) sc_points_on.nd rfl (Or.inl rfl) (pe_fn (ok_ratio_less T) (hr.mono (by decide)) (pa_cons (pv 4) (pa_cons (pe_fn (ok_ratio_product T) (hr.mono (by decide)) (pa_cons (pv 1) (pa_cons (pv 1) pa_nil))) pa_nil))))
      (pss_cons (ps_if (pt_cmpR op_lt (pe_ix ix_tup (pv 5) pe_int (fun _ _ => rfl)) pe_int (nomark _)) (pss_one (ps_ret (pe_lst pa_nil))) pss_nil)
      (pss_cons (ps_set (i := 6) sc_points_on.nd rfl (Or.inl rfl) (pe_tup (pa_cons (pe_fn (ok_ratio_back T) (hr.mono (by decide)) (pa_cons (pe_fn (ok_ratio_over T) (hr.mono (by decide)) (pa_cons (pe_fn (ok_ratio_product T) (hr.mono (by decide)) (pa_cons (pv 2) (pa_cons (pv 1) pa_nil))) (pa_cons (pv 4) pa_nil))) pa_nil)) (pa_cons (pe_fn (ok_ratio_back T) (hr.mono (by decide)) (pa_cons (pe_fn (ok_ratio_over T) (hr.mono (by decide)) (pa_cons (pe_fn (ok_ratio_product T) (hr.mono (by decide)) (pa_cons (pv 3) (pa_cons (pv 1) pa_nil))) (pa_cons (pv 4) pa_nil))) pa_nil)) pa_nil))))
      (pss_cons (ps_set (i := 7) sc_points_on.nd rfl (Or.inl rfl) (pe_lst pa_nil))
      (pss_cons (ps_for PassesOwn.never rfl (pi_tup (pe_ifExp (pt_cmpR op_gt (pe_ix ix_tup (pv 5) pe_int (fun _ _ => rfl)) pe_int (nomark _)) (pe_tup (pa_cons pe_int (pa_cons (pe_un un_neg pe_int) pa_nil))) (pe_tup (pa_cons pe_int pa_nil)))) (pg_name (i := 8) sc_points_on.nd rfl (by first | exact Or.inl rfl | exact Or.inr rfl)) (pss_cons (ps_set (i := 9) sc_points_on.nd rfl (Or.inl rfl) (pe_fn (ok_ratio_over T) (hr.mono (by decide)) (pa_cons (pe_fn (ok_ratio_product T) (hr.mono (by decide)) (pa_cons (pe_tup (pa_cons (pv 8) (pa_cons pe_int pa_nil))) (pa_cons (pv 3) pa_nil))) (pa_cons (pv 4) pa_nil))))
      (pss_cons (ps_set (i := 10) sc_points_on.nd rfl (Or.inl rfl) (pe_fn (ok_ratio_over T) (hr.mono (by decide)) (pa_cons (pe_fn (ok_ratio_product T) (hr.mono (by decide)) (pa_cons (pe_tup (pa_cons (pe_un un_neg (pv 8)) (pa_cons pe_int pa_nil))) (pa_cons (pv 2) pa_nil))) (pa_cons (pv 4) pa_nil))))
      (pss_one (ps_expr (pe_bm PySem.F.plainAttrs_list PySem.F.slot_list_append PySem.F.type_list_append mt_append (pv 7) (pa_cons (pe_makeP T (ok_Point_init T) (hr.mono (by decide)) (pa_cons (pe_tup (pa_cons (pe_ix ix_tup (pv 6) pe_int (fun _ _ => rfl)) (pa_cons (pv 9) pa_nil))) (pa_cons (pe_tup (pa_cons (pe_ix ix_tup (pv 6) pe_int (fun _ _ => rfl)) (pa_cons (pv 10) pa_nil))) (pa_cons (pv 5) pa_nil)))) pa_nil)))))))
      (pss_one (ps_ret (pv 7)))))))))), ?_⟩
  refine (?_ : Run none H _ _ ([some (pR K 118 k1 l1 m1), none, none, none, none, none, none, none, none, none, none] : Ga)) _ H (Same.refl H) (fits0 hp trivial rfl)
  refine r_asg (e_var rfl) (g_tup rfl (gs_cons g_name (gs_cons g_name (gs_cons g_name gs_nil)))) (r_set (e_square_length (e_tup (K := K) (a_cons (e_var rfl) (a_cons (e_var rfl) a_nil))) (by omega)) (r_set (e_ratio_less (e_var rfl) (e_ratio_product (e_var rfl) (e_var rfl) (by omega)) (by omega))
    (r_if (t_of (e_I0 (e_num (e_var rfl)) e_c)) (fun hb => r_done ((e_lstL (K := K) (n_lst a_nil)).imp fun v H p => ⟨[], ⟨fun _ h => by simp at h, .inl rfl⟩, p⟩) k) fun hb => r_next0 ?_)))
  have z0 : 0 ≤ (l1 * l1 + m1 * m1) - k1 * k1 := by
    have h1 := of_decide_eq_false hb
    have := fun z => h1 (num_neg.mpr z)
    grind
  refine r_set (e_tup (K := K) (a_cons (e_ratio_back (e_ratio_over (e_ratio_product (e_var rfl) (e_var rfl) (by omega)) (e_var rfl) ⟨n0, by omega⟩)) (a_cons (e_ratio_back (e_ratio_over (e_ratio_product (e_var rfl) (e_var rfl) (by omega)) (e_var rfl) ⟨n0, by omega⟩)) a_nil))) ?_
  refine r_weak (Δ := [some (pR K 118 k1 l1 m1), some (pQ K 118 k1), some (pQ K 118 l1), some (pQ K 118 m1), some (pQ K 473 (l1 * l1 + m1 * m1)), some (pQ K 710 ((l1 * l1 + m1 * m1) - k1 * k1)), some (pT K [pQ K 709 (-((l1 * k1) / (l1 * l1 + m1 * m1))), pQ K 709 (-((m1 * k1) / (l1 * l1 + m1 * m1)))]), none, none, none, none]) (by repeat first | exact trivial | refine ⟨rfl, ?_⟩) ?_
  refine r_accT (K := K) (Ps := (wsOf (decide (0 < ((l1 * l1 + m1 * m1) - k1 * k1).num))).map fun w => pV (.int w)) (Rs := (wsOf (decide (0 < ((l1 * l1 + m1 * m1) - k1 * k1).num))).map (pSpot K k1 l1 m1)) inferInstance
    (fun p => e_if (t_of (e_I0 (e_num (e_var rfl)) e_c)) (fun hb => e_to (e_tup (K := K) (a_cons e_c (a_cons (e_neg e_c) a_nil))) ?_) fun hb => e_to (e_tup (K := K) (a_cons e_c a_nil)) ?_) (by simp) (by simp [wsOf]; split <;> simp) (fun kk P R hP hR => ?_) (r_done ((e_var rfl).imp fun v H p => ⟨_, ⟨wsOf_pm, .inr z0⟩, pLg_L p⟩) k)
  · rw [hb]
    rfl
  · rw [hb]
    rfl
  · obtain ⟨w, hw, rfl, rfl⟩ := map2 hP hR
    have hw1 : w.natAbs < 2 ^ 1 := by rcases wsOf_pm w hw with rfl | rfl <;> decide
    have hw2 : (-w).natAbs < 2 ^ 1 := by rcases wsOf_pm w hw with rfl | rfl <;> decide
    exact turnA1 fun p acc H D' np ea small q => r_set (e_ratio_over (e_ratio_product (e_whole (n := 1) hw1 (by decide) (e_var rfl)) (e_var rfl) (by omega)) (e_var rfl) ⟨n0, by omega⟩) (r_set (e_ratio_over (e_ratio_product (e_back (e_whole (n := 1) hw2 (by decide) (e_neg (e_var rfl)))) (e_var rfl) (by omega)) (e_var rfl) ⟨n0, by omega⟩)
      (r_app (j := 7) rfl np ea small (by repeat first | exact trivial | refine ⟨rfl, ?_⟩) (e_makeP (a_cons (e_tup (K := K) (a_cons (e_at 0 (e_var rfl) rfl) (a_cons (e_var rfl) a_nil))) (a_cons (e_tup (K := K) (a_cons (e_at 1 (e_var rfl) rfl) (a_cons (e_var rfl) a_nil))) (a_cons (e_var rfl) a_nil)))) q))
/-! is_nought_row -/
def sp_is_nought_row (K : PySem.W.Frag) : Sp := fun vs H Q _ => ∃ (x y z : Rat) (m n o : Nat), (¬ (y = 0 ∧ z = 0)) ∧ AllP [pT K [pQ K m x, pQ K n y, pQ K o z]] vs H ∧ ∀ v H', Same H H' → (pV (.bl false) : Pd) v H' → Q v H'
theorem len_is_nought_row {vs : List V} {H : Hp} {Q : VK} {E : XK} (h : sp_is_nought_row K vs H Q E) : vs.length = 1 := by
  obtain ⟨_, _, _, _, _, _, _, pp, _⟩ := h
  exact AllP.len pp
theorem e_is_nought_row {l : Option Addr} {Γ : Ga} {t0 : TE} {x y z : Rat} {m n o : Nat}  (h0 : EvG l t0 Γ (pT K [pQ K m x, pQ K n y, pQ K o z])) (hc : ¬ (y = 0 ∧ z = 0)) : EvG l (tCall (sp_is_nought_row K) [] E0 (tCons t0 tNil)) Γ (pV (.bl false)) := e_call (fun _ _ _ pp kk => ⟨x, y, z, m, n, o, hc, pp, kk⟩) (a_cons h0 a_nil)
theorem sc_is_nought_row : FnScope ["row"] ["row"] (defScope s_is_nought_row) := ⟨rfl, rfl, rfl, by decide +kernel, rfl, by decide +kernel, by decide +kernel⟩
theorem ok_is_nought_row (T : Txt K mg) : Fn P w K mg base 1 "is_nought_row" ["row"] (sp_is_nought_row K) := by
  refine fn_mk T 41 39 rfl rfl sc_is_nought_row (fun vs H Q E h => len_is_nought_row h) (fun _ _ _ _ _ _ us hl => match us, hl with | [_], _ => rfl) (fun f cdv A outer s H vs Q E hr h => ?_)
  obtain ⟨x, y, z, m, n, o, hc, hp, k⟩ := h
  refine ⟨_, (pss_one (ps_ret (pe_and (pe_cmpR (op_eqD hr.units) (pe_ix ix_tup (pv 0) pe_int (fun _ _ => rfl)) (pe_glob (v := .ref (He.ga K "ZERO")) rfl (T.glo 84 rfl) rfl) (nomark _)) (pe_one (pe_cmpR (op_eqD hr.units) (pe_ix ix_tup (pv 0) pe_int (fun _ _ => rfl)) (pe_glob (v := .ref (He.ga K "ZERO")) rfl (T.glo 84 rfl) rfl) (nomark _)))))), ?_⟩
  refine (?_ : Run none H _ _ ([some (pT K [pQ K m x, pQ K n y, pQ K o z])] : Ga)) _ H (Same.refl H) (fits0 hp trivial rfl)
  refine r_done (e_bl (e_and (c := decide (z = 0)) (e_eqQ (e_at 1 (e_var rfl) rfl) (gl_ZERO T)) fun _ => e_eqQ (e_at 2 (e_var rfl) rfl) (gl_ZERO T)) ?_) k
  by_cases h : y = 0
  · have : ¬ z = 0 := fun q => hc ⟨h, q⟩
    simp [h, this]
  · simp [h]
/-! mixed_row -/
def sp_mixed_row (K : PySem.W.Frag) : Sp := fun vs H Q _ => ∃ (x1 x2 x3 y1 y2 y3 : Rat) (m1 m2 m3 n1 n2 n3 : Nat) (p q : Int), (p.natAbs < 2 ^ 60 ∧ q.natAbs < 2 ^ 60 ∧ m1 + n1 ≤ 1000 ∧ m2 + n2 ≤ 1000 ∧ m3 + n3 ≤ 1000) ∧ AllP [pT K [pQ K m1 x1, pQ K m2 x2, pQ K m3 x3], pV (.int p), pT K [pQ K n1 y1, pQ K n2 y2, pQ K n3 y3], pV (.int q)] vs H ∧ ∀ v H', Same H H' → (pT K [pQ K ((60 + m1) + (60 + n1) + 1) ((p : Rat) * x1 + (q : Rat) * y1), pQ K ((60 + m2) + (60 + n2) + 1) ((p : Rat) * x2 + (q : Rat) * y2), pQ K ((60 + m3) + (60 + n3) + 1) ((p : Rat) * x3 + (q : Rat) * y3)] : Pd) v H' → Q v H'
theorem len_mixed_row {vs : List V} {H : Hp} {Q : VK} {E : XK} (h : sp_mixed_row K vs H Q E) : vs.length = 4 := by
  obtain ⟨_, _, _, _, _, _, _, _, _, _, _, _, _, _, _, pp, _⟩ := h
  exact AllP.len pp
theorem e_mixed_row {l : Option Addr} {Γ : Ga} {t0 t1 t2 t3 : TE} {x1 x2 x3 y1 y2 y3 : Rat} {m1 m2 m3 n1 n2 n3 : Nat} {p q : Int}  (h0 : EvG l t0 Γ (pT K [pQ K m1 x1, pQ K m2 x2, pQ K m3 x3])) (h1 : EvG l t1 Γ (pV (.int p))) (h2 : EvG l t2 Γ (pT K [pQ K n1 y1, pQ K n2 y2, pQ K n3 y3])) (h3 : EvG l t3 Γ (pV (.int q))) (hc : p.natAbs < 2 ^ 60 ∧ q.natAbs < 2 ^ 60 ∧ m1 + n1 ≤ 1000 ∧ m2 + n2 ≤ 1000 ∧ m3 + n3 ≤ 1000) : EvG l (tCall (sp_mixed_row K) [] E0 (tCons t0 (tCons t1 (tCons t2 (tCons t3 tNil))))) Γ (pT K [pQ K ((60 + m1) + (60 + n1) + 1) ((p : Rat) * x1 + (q : Rat) * y1), pQ K ((60 + m2) + (60 + n2) + 1) ((p : Rat) * x2 + (q : Rat) * y2), pQ K ((60 + m3) + (60 + n3) + 1) ((p : Rat) * x3 + (q : Rat) * y3)]) := e_call (fun _ _ _ pp kk => ⟨x1, x2, x3, y1, y2, y3, m1, m2, m3, n1, n2, n3, p, q, hc, pp, kk⟩) (a_cons h0 (a_cons h1 (a_cons h2 (a_cons h3 a_nil))))
theorem sc_mixed_row : FnScope ["one", "factor", "two", "number", "found", "here", "there"] ["one", "factor", "two", "number"] (defScope s_mixed_row) := ⟨rfl, rfl, rfl, by decide +kernel, rfl, by decide +kernel, by decide +kernel⟩
theorem ok_mixed_row (T : Txt K mg) : Fn P w K mg base 4 "mixed_row" ["one", "factor", "two", "number"] (sp_mixed_row K) := by
  refine fn_mk T 42 40 rfl rfl sc_mixed_row (fun vs H Q E h => len_mixed_row h) (fun _ _ _ _ _ _ us hl => match us, hl with | [_, _, _, _], _ => rfl) (fun f cdv A outer s H vs Q E hr h => ?_)
  obtain ⟨x1, x2, x3, y1, y2, y3, m1, m2, m3, n1, n2, n3, p, q, hc, hp, k⟩ := h
  refine ⟨_, (pss_cons (ps_set (i := 4) sc_mixed_row.nd rfl (Or.inl rfl) (pe_lst pa_nil))
      (pss_cons (ps_for PassesOwn.never rfl (RZ.pi_zipA rfl (T.free 112 rfl) (pa_cons (pv 0) (pa_cons (pv 2) pa_nil))) (pg_tup rfl (pgs_cons (pg_name (i := 5) sc_mixed_row.nd rfl (by first | exact Or.inl rfl | exact Or.inr rfl)) (pgs_cons (pg_name (i := 6) sc_mixed_row.nd rfl (by first | exact Or.inl rfl | exact Or.inr rfl)) pgs_nil))) (pss_one (ps_expr (pe_bm PySem.F.plainAttrs_list PySem.F.slot_list_append PySem.F.type_list_append mt_append (pv 4) (pa_cons (pe_fn (ok_ratio_sum T) (hr.mono (by decide)) (pa_cons (pe_fn (ok_ratio_product T) (hr.mono (by decide)) (pa_cons (pe_tup (pa_cons (pv 1) (pa_cons pe_int pa_nil))) (pa_cons (pv 5) pa_nil))) (pa_cons (pe_fn (ok_ratio_product T) (hr.mono (by decide)) (pa_cons (pe_tup (pa_cons (pv 3) (pa_cons pe_int pa_nil))) (pa_cons (pv 6) pa_nil))) pa_nil))) pa_nil)))))
      (pss_one (ps_ret (pe_callTy call_tuple_of rfl (T.free 111 rfl) (by decide +kernel) (pa_cons (pv 4) pa_nil)))))), ?_⟩
  refine (?_ : Run none H _ _ ([some (pT K [pQ K m1 x1, pQ K m2 x2, pQ K m3 x3]), some (pV (.int p)), some (pT K [pQ K n1 y1, pQ K n2 y2, pQ K n3 y3]), some (pV (.int q)), none, none, none] : Ga)) _ H (Same.refl H) (fits0 hp trivial rfl)
  exact r_accZ (K := K) (Rs := [pQ K ((60 + m1) + (60 + n1) + 1) ((p : Rat) * x1 + (q : Rat) * y1), pQ K ((60 + m2) + (60 + n2) + 1) ((p : Rat) * x2 + (q : Rat) * y2), pQ K ((60 + m3) + (60 + n3) + 1) ((p : Rat) * x3 + (q : Rat) * y3)]) inferInstance (fun _ => a_cons (e_var rfl) (a_cons (e_var rfl) a_nil)) rfl rfl (by simp)
    (zip3 (turnA2 fun p acc H D' np ea small q => r_app (j := 4) rfl np ea small (by repeat first | exact trivial | refine ⟨rfl, ?_⟩) (e_ratio_sum (e_ratio_product (e_whole (n := 60) hc.1 (by decide) (e_var rfl)) (e_var rfl) (by omega)) (e_ratio_product (e_whole (n := 60) hc.2.1 (by decide) (e_var rfl)) (e_var rfl) (by omega)) (by omega)) q) (turnA2 fun p acc H D' np ea small q => r_app (j := 4) rfl np ea small (by repeat first | exact trivial | refine ⟨rfl, ?_⟩) (e_ratio_sum (e_ratio_product (e_whole (n := 60) hc.1 (by decide) (e_var rfl)) (e_var rfl) (by omega)) (e_ratio_product (e_whole (n := 60) hc.2.1 (by decide) (e_var rfl)) (e_var rfl) (by omega)) (by omega)) q) (turnA2 fun p acc H D' np ea small q => r_app (j := 4) rfl np ea small (by repeat first | exact trivial | refine ⟨rfl, ?_⟩) (e_ratio_sum (e_ratio_product (e_whole (n := 60) hc.1 (by decide) (e_var rfl)) (e_var rfl) (by omega)) (e_ratio_product (e_whole (n := 60) hc.2.1 (by decide) (e_var rfl)) (e_var rfl) (by omega)) (by omega)) q))
    (r_done (e_tupL (K := K) ((e_var rfl).imp fun v H p => pLg_L p)) k)
/-! in_order -/
def sp_in_order (K : PySem.W.Frag) : Sp := fun vs H Q _ => (True) ∧ AllP [pL K []] vs H ∧ ∀ v H', Same H H' → (pL K [] : Pd) v H' → Q v H'
theorem len_in_order {vs : List V} {H : Hp} {Q : VK} {E : XK} (h : sp_in_order K vs H Q E) : vs.length = 1 := by
  obtain ⟨_, pp, _⟩ := h
  exact AllP.len pp
theorem e_in_order {Γ : Ga} {t0 : TE}   (h0 : EvG none t0 Γ (pL K [])) : EvG none (tCall (sp_in_order K) [] E0 (tCons t0 tNil)) Γ (pL K []) := e_call (fun _ _ _ pp kk => ⟨trivial, pp, kk⟩) (a_cons h0 a_nil)
theorem sc_in_order : FnScope ["points", "found", "point"] ["points"] (defScope s_in_order) := ⟨rfl, rfl, rfl, by decide +kernel, rfl, by decide +kernel, by decide +kernel⟩
theorem ok_in_order (T : Txt K mg) : Fn P w K mg base 1 "in_order" ["points"] (sp_in_order K) := by
  refine fn_mk T 40 38 rfl rfl sc_in_order (fun vs H Q E h => len_in_order h) (fun _ _ _ _ _ _ us hl => match us, hl with | [_], _ => rfl) (fun f cdv A outer s H vs Q E hr h => ?_)
  obtain ⟨hc, hp, k⟩ := h
  refine ⟨_, (pss_cons (ps_setLc (i := 1) (own := [("point", 2)]) (g := (gName 2)) (tt := tYes) rfl sc_in_order.nd rfl rfl (sw_true rfl rfl rfl (by decide +kernel)) (pi_list (pv 0)) (blkOk_by (own := [("point", 2)]) (N := ["points", "found", "point"]) (sc := defScope s_in_order) (by decide +kernel)) (fun _ _ _ _ _ => (pg_name (i := 2) sc_in_order.nd rfl (by first | exact Or.inl rfl | exact Or.inr rfl))) (fun _ _ _ _ _ => pts_nil) (fun _ _ _ _ _ => pe_dead))
      (pss_one (ps_ret (pe_ifExp (PW.pt (pw_and (pt_cmpR op_eq (pe_callB call_len_seq rfl (T.free 105 rfl) (by decide +kernel) (pa_cons (pv 1) pa_nil)) pe_int (nomark _)) (pw_and1 pt_dead))) (pe_revL (pv 1)) (pv 1))))), ?_⟩
  refine (?_ : Run none H _ _ ([some (pL K []), none, none] : Ga)) _ H (Same.refl H) (fits0 hp trivial rfl)
  exact r_set (e_lcL (K := K) (Ps := []) (Rs := []) (e_var rfl) trivial) (r_done (e_ifF (t_and (b := false) (c := false) (t_of (e_bl (e_eq rfl (e_lenL (e_var rfl)) e_c) rfl)) fun z => by cases z) (e_var rfl)) k)
end
end K30

/-! text: KRnd2 -/
set_option Elab.async false
set_option linter.all false
set_option maxRecDepth 100000
set_option maxHeartbeats 4000000
namespace K30
open PySem PySem.Spec PyProof.Rows L2 K30M
section
variable {P : Program} {w : World} {K : PySem.W.Frag} {mg : Str → Option Value} {base : Heap}
theorem sg_le {x : Rat} (h : x ≤ 0) : ¬ 0 < sg x := by
  by_cases z : x = 0
  · rw [sg_zero z]
    decide
  · rw [sg_neg (by grind)]
    decide
theorem e_lcNoneX {Γ : Ga} {α : Type} {C : α → Prop} {fs : α → List Pd} {te : TE} [mm : ∀ x, MoL none (fs x)] {i : Nat} {tt : TT} {telt : TE} (hs : EvG none te Γ (pX C fun x => pL K (fs x))) (ht : ∀ x, C x → ∀ P ∈ fs x, EvT none tt (pt (wipeG Γ [i]) i (some P)) false) : EvG none (tLc (iList K te) (gName i) tt telt [i]) Γ (pL K []) := fun σ H0 Q f q =>
  hs σ H0 _ f fun v H1 u1 b1 => by
    obtain ⟨x0, hc, a, xs, e, s, p⟩ := Box.now u1.lo b1
    have bl := boxL_of (l := none) u1.lo p
    refine ⟨a, e, ⟨xs, s⟩, fun D nD => lc_list (K := K) (a := a) (xs := xs) (fun i H => Same H1 H ∧ H D = some (.lst [])) ⟨Same.new nD, upd_same⟩ (fun i H _ hp => Same.seq hp.1 s) (fun k x H hx hp => ?_) fun H hp => ?_⟩
    · have hk : k < (fs x0).length := by
        have := (List.getElem?_eq_some_iff.mp hx).1
        have := AllP.len p
        omega
      have hP : (fs x0)[k]? = some (fs x0)[k] := List.getElem?_eq_getElem hk
      have bx : Box none (fs x0)[k] x H1 := BoxL.at bl hP hx
      refine ⟨?_, ht x0 hc _ (List.getElem_mem _) _ H _ (((f.up u1).up (l := none) hp.1 |>.wipe [i]).put (Box.up (l := none) hp.1 bx)) fun H3 u3 => ?_⟩
      · show ((σ.set i none).set i (some x)).set i none = σ.set i none
        rw [List.set_set, List.set_set]
      · rw [if_neg Bool.false_ne_true]
        exact ⟨hp.1.trans u3, u3 _ _ hp.2⟩
    · exact q _ H (Same.trans u1 hp.1) fun H' u => ⟨D, [], rfl, .inl (.inl (u _ _ hp.2)), trivial⟩
/-- a told course, or None -/
def pO (K : PySem.W.Frag) : Option (Int × Int) → Pd
  | none => pV .non
  | some c => pT K [pV (.int c.1), pV (.int c.2)]
instance {l : Option Addr} {o : Option (Int × Int)} : Mo l (pO K o) := by
  cases o <;> (unfold pO; infer_instance)
instance {o : Option (Int × Int)} : MoT K (pO K o) := by
  cases o <;> (unfold pO; infer_instance)
instance {l : Option Addr} {n : Nat} {h : Rat × Rat} : Mo l (pP2 K n h) := by
  unfold pP2
  infer_instance
instance {n : Nat} {h : Rat × Rat} : MoT K (pP2 K n h) := by
  unfold pP2
  infer_instance
abbrev pW2 (K : PySem.W.Frag) (p q : Int) : Pd := pT K [pV (.int p), pV (.int q)]
theorem e_lcSome {Γ : Ga} {te : TE} {os : List (Option (Int × Int))} {i : Nat} {tt : TT} (hs : EvG none te Γ (pL K (os.map (pO K)))) (ht : ∀ o, EvT none tt (pt (wipeG Γ [i]) i (some (pO K o))) o.isSome) (hi : gt (pt (wipeG Γ [i]) i (some (pV .non))) i = some (pV .non)) (small : os.length ≤ 1000) :
    EvG none (tLc (iList K te) (gName i) tt (tVar i) [i]) Γ (pL K ((os.filterMap id).map fun c => pO K (some c))) := fun σ H0 Q f q =>
  hs σ H0 _ f fun v H1 u1 b1 => by
    obtain ⟨a, xs, e, s, p⟩ := Box.now u1.lo b1
    have bl := boxL_of (l := none) u1.lo p
    have lx := AllP.len p
    rw [List.length_map] at lx
    refine ⟨a, e, ⟨xs, s⟩, fun D nD => lc_list (K := K) (a := a) (xs := xs) (fun i H => Same H1 H ∧ ∃ acc, H D = some (.lst acc) ∧ AllP (((os.take i).filterMap id).map fun c => pO K (some c)) acc H) ⟨Same.new nD, [], upd_same, trivial⟩ (fun i H _ hp => Same.seq hp.1 s) (fun k x H hx hp => ?_) fun H hp => ?_⟩
    · obtain ⟨s1, acc, eD, hacc⟩ := hp
      have hk : k < os.length := by
        have := (List.getElem?_eq_some_iff.mp hx).1
        omega
      have ho : os[k]? = some os[k] := List.getElem?_eq_getElem hk
      have hP : (os.map (pO K))[k]? = some (pO K os[k]) := by rw [List.getElem?_map, ho]; rfl
      have bx : Box none (pO K os[k]) x H1 := BoxL.at bl hP hx
      have f2 := ((f.up u1).up (l := none) s1 |>.wipe [i]).put (i := i) (Box.up (l := none) s1 bx)
      refine ⟨?_, ht _ _ H _ f2 fun H3 u3 => ?_⟩
      · show ((σ.set i none).set i (some x)).set i none = σ.set i none
        rw [List.set_set, List.set_set]
      · have e3 : H3 D = some (.lst acc) := u3 _ _ eD
        have ta := take_at ho
        have mo : ∀ (c : Int × Int), MoT K (pO K (some c)) := fun c => inferInstance
        have hM : MoTL K (((os.take k).filterMap id).map fun c => pO K (some c)) := motl_of fun P h => by
          obtain ⟨c, _, e⟩ := List.mem_map.mp h
          rw [← e]
          exact mo c
        cases eo : os[k] with
        | none =>
          rw [if_neg (by simp)]
          refine ⟨s1.trans u3, acc, e3, ?_⟩
          rw [ta, eo, List.filterMap_append]
          simp only [List.filterMap_cons, List.filterMap_nil, id, List.append_nil]
          exact hM.mo _ _ _ (Tup.same u3) hacc
        | some c =>
          rw [if_pos (by simp)]
          have gv : (σ.set i none |>.set i (some x))[i]? = some (some x) := by
            have l1 := FitL.len f2.2
            have : i < (σ.set i none).length := by
              rcases Nat.lt_or_ge i (σ.set i none).length with h | h
              · exact h
              · exfalso
                have l2 : i < (pt (wipeG Γ [i]) i (some (pO K os[k]))).length := by
                  have lp : ∀ (Γ : Ga) (i : Nat) (a b : Option Pd), gt (pt Γ i a) i = some (pV .non) → i < (pt Γ i b).length := by
                    intro Γ
                    induction Γ with
                    | nil => exact fun _ _ _ h => by cases h
                    | cons o Γ ih =>
                      intro i a b h
                      cases i with
                      | zero => exact Nat.succ_pos _
                      | succ i => exact Nat.succ_lt_succ (ih i a b h)
                  exact lp _ _ _ _ hi
                have l3 : ((wipe σ [i]).set i (some x)).length = (σ.set i none).length := by simp [wipe]
                omega
            rw [List.getElem?_set_self this]
          refine ⟨x, gv, acc, e3, ?_, Same.mut (s1.trans u3) nD, _, upd_same, ?_⟩
          · have la := AllP.len hacc
            rw [List.length_map] at la
            have := List.length_filterMap_le id (os.take k)
            rw [List.length_take] at this
            exact small1000 (by omega)
          · rw [ta, eo, List.filterMap_append]
            simp only [List.filterMap_cons, List.filterMap_nil, id, List.map_append, List.map_cons, List.map_nil]
            refine AllP.snoc (hM.mo _ _ _ ((Tup.same u3).trans (Tup.lst e3)) hacc) ((mo c).mo _ _ _ ((Tup.same u3).trans (Tup.lst e3)) ?_)
            rw [← eo]
            exact Box.now (l := none) trivial (Box.up (l := none) s1 bx)
    · obtain ⟨s1, acc, eD, hacc⟩ := hp
      refine q _ H (Same.trans u1 s1) fun H' u => ⟨D, acc, rfl, .inl (.inl (u _ _ eD)), ?_⟩
      rw [List.take_of_length_le (by omega)] at hacc
      have hM : MoTL K ((os.filterMap id).map fun c => pO K (some c)) := motl_of fun P h => by
        obtain ⟨c, _, e⟩ := List.mem_map.mp h
        rw [← e]
        infer_instance
      exact hM.mo _ _ _ (Tup.same u) hacc
theorem e_inW {l : Option Addr} {Γ : Ga} {f : Fv} {ta tb : TE} (ha : EvG l ta Γ (pWord f)) (hb : EvG l tb Γ (pT K [pV (.str "round"), pV (.str "backward")])) : EvG l (tOp (rIn K false) ta tb) Γ (pV (.bl (decide (f.N < f.W * f.W)))) :=
  e_op (fun u w H Q hu hw k => by
    obtain ⟨s, hs, e⟩ := hu
    have e : u = .str s := e
    obtain ⟨a, vs, e2, sq, p⟩ := hw
    have := vals_of (xs := [.str "round", .str "backward"]) p
    subst e e2 this
    refine ⟨a, _, rfl, .inr sq, rfl, rfl, k _ H (Same.refl H) ?_⟩
    show V.bl _ = V.bl _
    rw [← hs]
    rfl) ha hb
theorem told_cons {f : Fv} (h : ¬ f.N < f.W * f.W) {c : Int × Int} {r : List (Int × Int)} (e : samples.filterMap (shown f) = c :: r) : told f = some (if f.flat then (-c.2, c.1) else (-c.1, -c.2)) := by
  unfold told
  rw [if_neg h, e]
abbrev rNotN : R2 := fun x y H Q => y = .non ∧ Q (.bl (!decide (x = .non))) H
theorem e_notN {l : Option Addr} {Γ : Ga} {te : TE} {o : Option (Int × Int)} (h : EvG l te Γ (pO K o)) : EvG l (tOp rNotN te (tC .non)) Γ (pV (.bl o.isSome)) :=
  e_op (P := pO K o) (P' := pV .non) (fun x y H Q hx hy k => ⟨hy, k _ H (Same.refl H) (by
    show V.bl _ = V.bl _
    cases o with
    | none =>
      have : x = .non := hx
      rw [this]
      rfl
    | some c =>
      obtain ⟨a, vs, e, _⟩ := hx
      rw [e]
      rfl)⟩) h e_c
theorem l_ref {Ps : List Pd} : ∀ v H, pL K Ps v H → v ≠ .non := fun v H ⟨a, vs, e, _⟩ z => by
  rw [z] at e
  cases e
/-! showing -/
def sp_showing (K : PySem.W.Frag) : Sp := fun vs H Q _ => ∃ (g : Fv) (p q : Int), (Hide g (p : Rat) (q : Rat) ∧ Tame g ∧ p.natAbs < 2 ^ 60 ∧ q.natAbs < 2 ^ 60) ∧ AllP [pFive K g, pW2 K p q] vs H ∧ ∀ v H', Same H H' → (pL K [] : Pd) v H' → Q v H'
theorem len_showing {vs : List V} {H : Hp} {Q : VK} {E : XK} (h : sp_showing K vs H Q E) : vs.length = 2 := by
  obtain ⟨_, _, _, _, pp, _⟩ := h
  exact AllP.len pp
theorem e_showing {Γ : Ga} {t0 t1 : TE} {g : Fv} {p q : Int}  (h0 : EvG none t0 Γ (pFive K g)) (h1 : EvG none t1 Γ (pW2 K p q)) (hc : Hide g (p : Rat) (q : Rat) ∧ Tame g ∧ p.natAbs < 2 ^ 60 ∧ q.natAbs < 2 ^ 60) : EvG none (tCall (sp_showing K) [] E0 (tCons t0 (tCons t1 tNil))) Γ (pL K []) := e_call (fun _ _ _ pp kk => ⟨g, p, q, hc, pp, kk⟩) (a_cons h0 (a_cons h1 a_nil))
theorem sc_showing : FnScope ["five", "course", "ahead", "aside", "across", "along", "point"] ["five", "course"] (defScope s_showing) := ⟨rfl, rfl, rfl, by decide +kernel, rfl, by decide +kernel, by decide +kernel⟩
theorem ok_showing (T : Txt K mg) : Fn P w K mg base 6 "showing" ["five", "course"] (sp_showing K) := by
  refine fn_mk T 43 41 rfl rfl sc_showing (fun vs H Q E h => len_showing h) (fun _ _ _ _ _ _ us hl => match us, hl with | [_, _], _ => rfl) (fun f cdv A outer s H vs Q E hr h => ?_)
  obtain ⟨g, p, q, hc, hp, k⟩ := h
  obtain ⟨hid, tame, hp0, hq0⟩ := hc
  obtain ⟨b1, b2, b3, b4, b5, b6⟩ := rows_bd tame hp0 hq0
  have cn : (((-q : Int) : Int) : Rat) = -(q : Rat) := Rat.intCast_neg q
  refine ⟨_, (pss_cons (ps_asg (pe_fn (ok_ship_rows T) (hr.mono (by decide)) (pa_cons (pv 0) pa_nil)) (pg_tup rfl (pgs_cons (pg_name (i := 2) sc_showing.nd rfl (by first | exact Or.inl rfl | exact Or.inr rfl)) (pgs_cons (pg_name (i := 3) sc_showing.nd rfl (by first | exact Or.inl rfl | exact Or.inr rfl)) pgs_nil))))
      (pss_cons (ps_set (i := 4) sc_showing.nd rfl (Or.inl rfl) (pe_fn (ok_mixed_row T) (hr.mono (by decide)) (pa_cons (pv 2) (pa_cons (pe_ix ix_tup (pv 1) pe_int (fun _ _ => rfl)) (pa_cons (pv 3) (pa_cons (pe_ix ix_tup (pv 1) pe_int (fun _ _ => rfl)) pa_nil))))))
      (pss_cons (ps_set (i := 5) sc_showing.nd rfl (Or.inr rfl) (pe_fn (ok_mixed_row T) (hr.mono (by decide)) (pa_cons (pv 2) (pa_cons (pe_ix ix_tup (pv 1) pe_int (fun _ _ => rfl)) (pa_cons (pv 3) (pa_cons (pe_un un_neg (pe_ix ix_tup (pv 1) pe_int (fun _ _ => rfl))) pa_nil))))))
      (pss_cons (ps_if (pt_val (pe_fn (ok_is_nought_row T) (hr.mono (by decide)) (pa_cons (pv 4) pa_nil))) (pss_one ps_never) pss_nil)
      (pss_one (ps_ret (pe_fn (ok_in_order T) (hr.mono (by decide)) (pa_cons (pe_lc (own := [("point", 6)]) (g := (gName 6))  rfl sc_showing.nd  (pi_list (pe_fn (ok_points_on T) (hr.mono (by decide)) (pa_cons (pv 4) pa_nil))) (blkOk_by (own := [("point", 6)]) (N := ["five", "course", "ahead", "aside", "across", "along", "point"]) (sc := defScope s_showing) (by decide +kernel)) (fun _ _ _ _ _ => (pg_name (i := 6) sc_showing.nd rfl (by first | exact Or.inl rfl | exact Or.inr rfl))) (fun _ _ _ _ _ => (pts_one (pt_cmpR op_gt (show PE _ _ (tMeth (He.ga K "Point") "sign_of_row" (sp_Point_sign_of_row K) [] E0 _ _) from pe_methP T (ok_Point_sign_of_row T) (hr.mono (by decide)) (pv 6) (pa_cons (pv 5) pa_nil)) pe_int (nomark _)))) (fun _ _ _ _ _ => (pv 6))) pa_nil)))))))), ?_⟩
  refine (?_ : Run none H _ _ ([some (pFive K g), some (pW2 K p q), none, none, none, none, none] : Ga)) _ H (Same.refl H) (fits0 hp trivial rfl)
  refine r_asg (e_ship_rows (e_var rfl)) (g_tup rfl (gs_cons g_name (gs_cons g_name gs_nil))) (r_set (t3_bd (e_mixed_row (e_var rfl) (e_at 1 (e_var rfl) rfl) (e_var rfl) (e_at 0 (e_var rfl) rfl) ⟨hq0, hp0, by omega, by omega, by omega⟩) rfl rfl rfl b1 b2 b3)
    (r_set (t3_bd (e_mixed_row (e_var rfl) (e_at 0 (e_var rfl) rfl) (e_var rfl) (e_neg (e_at 1 (e_var rfl) rfl)) ⟨hp0, by rw [Int.natAbs_neg]; exact hq0, by omega, by omega, by omega⟩) (by rw [cn]) (by rw [cn]) (by rw [cn]) b4 b5 b6)
    (r_if (t_B (e_is_nought_row (e_var rfl) hid.nz)) (fun z => by cases z) fun _ => r_next0 (r_done (e_in_order (e_lcNoneX (K := K) (e_points_on (e_var rfl) hid.nz) ?_)) k))))
  intro ws hw P hP
  obtain ⟨w, hm, rfl⟩ := List.mem_map.mp hP
  have hw1 : (w : Rat) = 1 ∨ (w : Rat) = -1 := (hw.1 w hm).elim (fun e => .inl (by rw [e]; rfl)) fun e => .inr (by rw [e]; exact cm1)
  have z0 := hw.2.resolve_left fun e => by rw [e] at hm; cases hm
  obtain ⟨t, lo⟩ := pt_low hid hw1 z0
  exact t_of (e_bl (e_I0 (e_sign_row (t := t) (e_var rfl) (e_var rfl) ⟨lo.t0, lo.sq⟩) e_c) (decide_eq_false (sg_le lo.le)))
/-! course_shown -/
def sp_course_shown (K : PySem.W.Frag) : Sp := fun vs H Q _ => ∃ (g : Fv) (xc xs : Rat), (True) ∧ AllP [pFive K g, pHd K 16 xc xs] vs H ∧ ∀ v H', Same H H' → (pO K (shown g (xc, xs)) : Pd) v H' → Q v H'
theorem len_course_shown {vs : List V} {H : Hp} {Q : VK} {E : XK} (h : sp_course_shown K vs H Q E) : vs.length = 2 := by
  obtain ⟨_, _, _, _, pp, _⟩ := h
  exact AllP.len pp
theorem e_course_shown {Γ : Ga} {t0 t1 : TE} {g : Fv} {xc xs : Rat}  (h0 : EvG none t0 Γ (pFive K g)) (h1 : EvG none t1 Γ (pHd K 16 xc xs)) : EvG none (tCall (sp_course_shown K) [] E0 (tCons t0 (tCons t1 tNil))) Γ (pO K (shown g (xc, xs))) := e_call (fun _ _ _ pp kk => ⟨g, xc, xs, trivial, pp, kk⟩) (a_cons h0 (a_cons h1 a_nil))
theorem sc_course_shown : FnScope ["five", "heading", "ahead", "aside", "row"] ["five", "heading"] (defScope s_course_shown) := ⟨rfl, rfl, rfl, by decide +kernel, rfl, by decide +kernel, by decide +kernel⟩
theorem ok_course_shown (T : Txt K mg) : Fn P w K mg base 5 "course_shown" ["five", "heading"] (sp_course_shown K) := by
  refine fn_mk T 44 42 rfl rfl sc_course_shown (fun vs H Q E h => len_course_shown h) (fun _ _ _ _ _ _ us hl => match us, hl with | [_, _], _ => rfl) (fun f cdv A outer s H vs Q E hr h => ?_)
  obtain ⟨g, xc, xs, hc, hp, k⟩ := h
  refine ⟨_, (pss_cons (ps_asg (pe_lc (own := [("row", 4)]) (g := (gName 4)) (tt := tYes) rfl sc_course_shown.nd  (pi_tup (pe_fn (ok_ship_rows T) (hr.mono (by decide)) (pa_cons (pv 0) pa_nil))) (blkOk_by (own := [("row", 4)]) (N := ["five", "heading", "ahead", "aside", "row"]) (sc := defScope s_course_shown) (by decide +kernel)) (fun _ _ _ _ _ => (pg_name (i := 4) sc_course_shown.nd rfl (by first | exact Or.inl rfl | exact Or.inr rfl))) (fun _ _ _ _ _ => pts_nil) (fun _ _ _ _ _ => (pe_fn (ok_row_value T) (hr.mono (by decide)) (pa_cons (pv 4) (pa_cons (pv 1) pa_nil))))) (pg_unl rfl (pgs_cons (pg_name (i := 2) sc_course_shown.nd rfl (by first | exact Or.inl rfl | exact Or.inr rfl)) (pgs_cons (pg_name (i := 3) sc_course_shown.nd rfl (by first | exact Or.inl rfl | exact Or.inr rfl)) pgs_nil))))
      (pss_one (ps_ret (pe_ifExp (PW.pt (pw_and (pt_cmpR (op_eqD hr.units) (pv 2) (pe_glob (v := .ref (He.ga K "ZERO")) rfl (T.glo 84 rfl) rfl) (nomark _)) (pw_and1 (pt_cmpR (op_eqD hr.units) (pv 3) (pe_glob (v := .ref (He.ga K "ZERO")) rfl (T.glo 84 rfl) rfl) (nomark _))))) pe_non (pe_fn (ok_way_along T) (hr.mono (by decide)) (pa_cons (pv 2) (pa_cons (pe_fn (ok_ratio_back T) (hr.mono (by decide)) (pa_cons (pv 3) pa_nil)) pa_nil))))))), ?_⟩
  refine (?_ : Run none H _ _ ([some (pFive K g), some (pHd K 16 xc xs), none, none, none] : Ga)) _ H (Same.refl H) (fits0 hp trivial rfl)
  refine r_asg (e_lcT (K := K) (Rs := [pQ K 253 (g.x xc xs), pQ K 253 (g.y xc xs)]) (e_ship_rows (e_var rfl)) ⟨turn1_name ?_, turn1_name ?_, trivial⟩) (g_unl rfl (gs_cons g_name (gs_cons g_name gs_nil)))
    (r_done (e_if (t_and (t_of (e_eqQ (e_var rfl) (gl_ZERO T))) fun _ => t_of (e_eqQ (e_var rfl) (gl_ZERO T))) (fun hb => e_to e_c ?_) fun hb => e_to (e_way_along (e_var rfl) (e_ratio_back (e_var rfl)) (by omega)) ?_) k)
  · exact e_row_value (m := 54) (n := 56) (o := 109) (p := 16) (q := 16) (e_var rfl) (e_var rfl) (by omega)
  · exact e_row_value (m := 54) (n := 109) (o := 56) (p := 16) (q := 16) (e_var rfl) (e_var rfl) (by omega)
  · rw [Bool.and_eq_true] at hb
    have h1 := of_decide_eq_true hb.1
    have h2 := of_decide_eq_true hb.2
    unfold K30M.shown
    rw [if_pos ⟨h1, h2⟩]
    rfl
  · have : ¬ (g.x xc xs = 0 ∧ g.y xc xs = 0) := fun ⟨h1, h2⟩ => by
      rw [decide_eq_true h1, decide_eq_true h2] at hb
      cases hb
    unfold K30M.shown
    rw [if_neg this]
    rfl
/-! some_unshown -/
def sp_some_unshown (K : PySem.W.Frag) : Sp := fun vs H Q _ => ∃ (g : Fv), (True) ∧ AllP [pFive K g] vs H ∧ ∀ v H', Same H H' → (pO K (told g) : Pd) v H' → Q v H'
theorem len_some_unshown {vs : List V} {H : Hp} {Q : VK} {E : XK} (h : sp_some_unshown K vs H Q E) : vs.length = 1 := by
  obtain ⟨_, _, pp, _⟩ := h
  exact AllP.len pp
theorem e_some_unshown {Γ : Ga} {t0 : TE} {g : Fv}  (h0 : EvG none t0 Γ (pFive K g)) : EvG none (tCall (sp_some_unshown K) [] E0 (tCons t0 tNil)) Γ (pO K (told g)) := e_call (fun _ _ _ pp kk => ⟨g, trivial, pp, kk⟩) (a_cons h0 a_nil)
theorem sc_some_unshown : FnScope ["five", "shown", "heading", "right", "up", "course"] ["five"] (defScope s_some_unshown) := ⟨rfl, rfl, rfl, by decide +kernel, rfl, by decide +kernel, by decide +kernel⟩
theorem ok_some_unshown (T : Txt K mg) : Fn P w K mg base 7 "some_unshown" ["five"] (sp_some_unshown K) := by
  refine fn_mk T 45 43 rfl rfl sc_some_unshown (fun vs H Q E h => len_some_unshown h) (fun _ _ _ _ _ _ us hl => match us, hl with | [_], _ => rfl) (fun f cdv A outer s H vs Q E hr h => ?_)
  obtain ⟨g, hc, hp, k⟩ := h
  refine ⟨_, (pss_cons (ps_if (pt_cmpR op_in_seq (pe_fn (ok_word_for T) (hr.mono (by decide)) (pa_cons (pv 0) pa_nil)) (pe_tup (pa_cons pe_str (pa_cons pe_str pa_nil))) (by rfl)) (pss_one (ps_ret pe_non)) pss_nil)
      (pss_cons (ps_setLc (i := 1) (own := [("heading", 2)]) (g := (gName 2)) (tt := tYes) rfl sc_some_unshown.nd rfl rfl (sw_true rfl rfl rfl (by decide +kernel)) (pi_tup (pe_glob (v := .ref (He.ga K "SAMPLES")) rfl (T.glo 91 rfl) rfl)) (blkOk_by (own := [("heading", 2)]) (N := ["five", "shown", "heading", "right", "up", "course"]) (sc := defScope s_some_unshown) (by decide +kernel)) (fun _ _ _ _ _ => (pg_name (i := 2) sc_some_unshown.nd rfl (by first | exact Or.inl rfl | exact Or.inr rfl))) (fun _ _ _ _ _ => pts_nil) (fun _ _ _ _ _ => (pe_fn (ok_course_shown T) (hr.mono (by decide)) (pa_cons (pv 0) (pa_cons (pv 2) pa_nil)))))
      (pss_cons (ps_asg (pe_ix ix_list (pe_lc (own := [("course", 5)]) (g := (gName 5))  rfl sc_some_unshown.nd  (pi_list (pv 1)) (blkOk_by (own := [("course", 5)]) (N := ["five", "shown", "heading", "right", "up", "course"]) (sc := defScope s_some_unshown) (by decide +kernel)) (fun _ _ _ _ _ => (pg_name (i := 5) sc_some_unshown.nd rfl (by first | exact Or.inl rfl | exact Or.inr rfl))) (fun _ _ _ _ _ => (pts_one (pt_cmpR op_notN (pv 5) pe_non (nomark _)))) (fun _ _ _ _ _ => (pv 5))) pe_int (fun _ _ => rfl)) (pg_tup rfl (pgs_cons (pg_name (i := 3) sc_some_unshown.nd rfl (by first | exact Or.inl rfl | exact Or.inr rfl)) (pgs_cons (pg_name (i := 4) sc_some_unshown.nd rfl (by first | exact Or.inl rfl | exact Or.inr rfl)) pgs_nil))))
      (pss_one (ps_ret (pe_ifExp (pt_val (pe_fn (ok_is_straight T) (hr.mono (by decide)) (pa_cons (pe_fn (ok_numbers_of T) (hr.mono (by decide)) (pa_cons (pv 0) pa_nil)) pa_nil))) (pe_tup (pa_cons (pe_un un_neg (pv 4)) (pa_cons (pv 3) pa_nil))) (pe_tup (pa_cons (pe_un un_neg (pv 3)) (pa_cons (pe_un un_neg (pv 4)) pa_nil))))))))), ?_⟩
  refine (?_ : Run none H _ _ ([some (pFive K g), none, none, none, none, none] : Ga)) _ H (Same.refl H) (fits0 hp trivial rfl)
  refine r_if (t_of (e_inW (e_word_for (e_var rfl)) (e_tup (K := K) (a_cons e_c (a_cons e_c a_nil))))) (fun hb => r_done (e_to e_c ?_) k) fun hb => r_next0 ?_
  · unfold told
    rw [if_pos (of_decide_eq_true hb)]
    rfl
  · have hn := of_decide_eq_false hb
    obtain ⟨c, r, e⟩ := some_shown g
    refine r_set (e_lcT (K := K) (Ps := samples.map (pP2 K 16)) (Rs := (samples.map (shown g)).map (pO K)) (gl_SAMPLES T) ⟨turn1_name ?_, turn1_name ?_, turn1_name ?_, turn1_name ?_, turn1_name ?_, turn1_name ?_, turn1_name ?_, turn1_name ?_, trivial⟩ (by simp [samples]))
      (r_asg (e_ixL (K := K) (i := 0) (P := pW2 K c.1 c.2) ?_ (e_lcSome (K := K) (e_var rfl) (fun o => t_of (e_notN (K := K) (e_var rfl))) rfl (by simp [samples]))) (g_tup rfl (gs_cons g_name (gs_cons g_name gs_nil)))
      (r_done (e_if (e_t (e_is_straight (e_numbers_of (e_var rfl))) (flat_dec g)) (fun hb => e_to (e_tup (K := K) (a_cons (e_neg (e_var rfl)) (a_cons (e_var rfl) a_nil))) ?_) fun hb => e_to (e_tup (K := K) (a_cons (e_neg (e_var rfl)) (a_cons (e_neg (e_var rfl)) a_nil))) ?_) k))
    iterate 8 exact e_course_shown (e_var rfl) (e_var rfl)
    · have : ((samples.map (shown g)).filterMap id) = samples.filterMap (shown g) := by rw [List.filterMap_map]; rfl
      rw [this, e]
      rfl
    · rw [told_cons hn e, if_pos (of_decide_eq_true hb)]
      rfl
    · rw [told_cons hn e, if_neg (of_decide_eq_false hb)]
      rfl
/-! headings_of -/
def sp_headings_of (K : PySem.W.Frag) : Sp := fun vs H Q _ => ∃ (g : Fv) (p q : Int), (gcdI p q = 1 ∧ Hide g (p : Rat) (q : Rat) ∧ Tame g ∧ p.natAbs < 2 ^ 60 ∧ q.natAbs < 2 ^ 60) ∧ AllP [pFive K g, pW2 K p q] vs H ∧ ∀ v H', Same H H' → (pT K [] : Pd) v H' → Q v H'
theorem len_headings_of {vs : List V} {H : Hp} {Q : VK} {E : XK} (h : sp_headings_of K vs H Q E) : vs.length = 2 := by
  obtain ⟨_, _, _, _, pp, _⟩ := h
  exact AllP.len pp
theorem e_headings_of {Γ : Ga} {t0 t1 : TE} {g : Fv} {p q : Int}  (h0 : EvG none t0 Γ (pFive K g)) (h1 : EvG none t1 Γ (pW2 K p q)) (hc : gcdI p q = 1 ∧ Hide g (p : Rat) (q : Rat) ∧ Tame g ∧ p.natAbs < 2 ^ 60 ∧ q.natAbs < 2 ^ 60) : EvG none (tCall (sp_headings_of K) [] E0 (tCons t0 (tCons t1 tNil))) Γ (pT K []) := e_call (fun _ _ _ pp kk => ⟨g, p, q, hc, pp, kk⟩) (a_cons h0 (a_cons h1 a_nil))
theorem sc_headings_of : FnScope ["five", "course", "found"] ["five", "course"] (defScope s_headings_of) := ⟨rfl, rfl, rfl, by decide +kernel, rfl, by decide +kernel, by decide +kernel⟩
theorem ok_headings_of (T : Txt K mg) : Fn P w K mg base 7 "headings_of" ["five", "course"] (sp_headings_of K) := by
  refine fn_mk T 46 44 rfl rfl sc_headings_of (fun vs H Q E h => len_headings_of h) (fun _ _ _ _ _ _ us hl => match us, hl with | [_, _], _ => rfl) (fun f cdv A outer s H vs Q E hr h => ?_)
  obtain ⟨g, p, q, hc, hp, k⟩ := h
  refine ⟨_, (pss_cons (ps_expr (pe_fn (ok_check_five T) (hr.mono (by decide)) (pa_cons (pv 0) pa_nil)))
      (pss_cons (ps_expr (pe_fn (ok_check_course T) (hr.mono (by decide)) (pa_cons (pv 1) pa_nil)))
      (pss_cons (ps_set (i := 2) sc_headings_of.nd rfl (Or.inl rfl) (pe_fn (ok_showing T) (hr.mono (by decide)) (pa_cons (pv 0) (pa_cons (pv 1) pa_nil))))
      (pss_one (ps_ret (pe_ifExp (pt_cmpR op_isN (pv 2) pe_non (nomark _)) pe_non (pe_callTy call_tuple_of rfl (T.free 111 rfl) (by decide +kernel) (pa_cons (pv 2) pa_nil)))))))), ?_⟩
  refine (?_ : Run none H _ _ ([some (pFive K g), some (pW2 K p q), none] : Ga)) _ H (Same.refl H) (fits0 hp trivial rfl)
  exact r_drop (e_check_five (e_var rfl)) (r_drop (e_check_course (e_var rfl) hc.1) (r_set (e_showing (e_var rfl) (e_var rfl) hc.2) (r_done (e_ifF (t_of (e_isN' l_ref (e_var rfl))) (e_tupL (K := K) (e_var rfl))) k)))
/-! unshown_course -/
def sp_unshown_course (K : PySem.W.Frag) : Sp := fun vs H Q _ => ∃ (g : Fv), (True) ∧ AllP [pFive K g] vs H ∧ ∀ v H', Same H H' → (pO K (told g) : Pd) v H' → Q v H'
theorem len_unshown_course {vs : List V} {H : Hp} {Q : VK} {E : XK} (h : sp_unshown_course K vs H Q E) : vs.length = 1 := by
  obtain ⟨_, _, pp, _⟩ := h
  exact AllP.len pp
theorem e_unshown_course {Γ : Ga} {t0 : TE} {g : Fv}  (h0 : EvG none t0 Γ (pFive K g)) : EvG none (tCall (sp_unshown_course K) [] E0 (tCons t0 tNil)) Γ (pO K (told g)) := e_call (fun _ _ _ pp kk => ⟨g, trivial, pp, kk⟩) (a_cons h0 a_nil)
theorem sc_unshown_course : FnScope ["five"] ["five"] (defScope s_unshown_course) := ⟨rfl, rfl, rfl, by decide +kernel, rfl, by decide +kernel, by decide +kernel⟩
theorem ok_unshown_course (T : Txt K mg) : Fn P w K mg base 8 "unshown_course" ["five"] (sp_unshown_course K) := by
  refine fn_mk T 47 45 rfl rfl sc_unshown_course (fun vs H Q E h => len_unshown_course h) (fun _ _ _ _ _ _ us hl => match us, hl with | [_], _ => rfl) (fun f cdv A outer s H vs Q E hr h => ?_)
  obtain ⟨g, hc, hp, k⟩ := h
  refine ⟨_, (pss_cons (ps_expr (pe_fn (ok_check_five T) (hr.mono (by decide)) (pa_cons (pv 0) pa_nil)))
      (pss_one (ps_ret (pe_fn (ok_some_unshown T) (hr.mono (by decide)) (pa_cons (pv 0) pa_nil))))), ?_⟩
  refine (?_ : Run none H _ _ ([some (pFive K g)] : Ga)) _ H (Same.refl H) (fits0 hp trivial rfl)
  exact r_drop (e_check_five (e_var rfl)) (r_done (e_some_unshown (e_var rfl)) k)
/-! is_course -/
def sp_is_course (K : PySem.W.Frag) : Sp := fun vs H Q _ => ∃ (a b : Int), (gcdI a b = 1) ∧ AllP [pW2 K a b] vs H ∧ ∀ v H', Same H H' → (pV (.bl true) : Pd) v H' → Q v H'
theorem len_is_course {vs : List V} {H : Hp} {Q : VK} {E : XK} (h : sp_is_course K vs H Q E) : vs.length = 1 := by
  obtain ⟨_, _, _, pp, _⟩ := h
  exact AllP.len pp
theorem e_is_course {l : Option Addr} {Γ : Ga} {t0 : TE} {a b : Int}  (h0 : EvG l t0 Γ (pW2 K a b)) (hc : gcdI a b = 1) : EvG l (tCall (sp_is_course K) [] E0 (tCons t0 tNil)) Γ (pV (.bl true)) := e_call (fun _ _ _ pp kk => ⟨a, b, hc, pp, kk⟩) (a_cons h0 a_nil)
theorem sc_is_course : FnScope ["value"] ["value"] (defScope s_is_course) := ⟨rfl, rfl, rfl, by decide +kernel, rfl, by decide +kernel, by decide +kernel⟩
theorem ok_is_course (T : Txt K mg) : Fn P w K mg base 4 "is_course" ["value"] (sp_is_course K) := by
  refine fn_mk T 48 46 rfl rfl sc_is_course (fun vs H Q E h => len_is_course h) (fun _ _ _ _ _ _ us hl => match us, hl with | [_], _ => rfl) (fun f cdv A outer s H vs Q E hr h => ?_)
  obtain ⟨a, b, hc, hp, k⟩ := h
  refine ⟨_, (pss_one (ps_ret (pe_fn (ok_is_way T) (hr.mono (by decide)) (pa_cons (pv 0) pa_nil)))), ?_⟩
  refine (?_ : Run none H _ _ ([some (pW2 K a b)] : Ga)) _ H (Same.refl H) (fits0 hp trivial rfl)
  exact r_done (e_is_way (e_var rfl) hc) k
/-! check_needle -/
def sp_check_needle (K : PySem.W.Frag) : Sp := fun vs H Q _ => ∃ (g : Fv) (x y : Rat), (x * x + y * y = 1) ∧ AllP [pFive K g, pHd K 16 x y] vs H ∧ ∀ v H', Same H H' → (pV .non : Pd) v H' → Q v H'
theorem len_check_needle {vs : List V} {H : Hp} {Q : VK} {E : XK} (h : sp_check_needle K vs H Q E) : vs.length = 2 := by
  obtain ⟨_, _, _, _, pp, _⟩ := h
  exact AllP.len pp
theorem e_check_needle {l : Option Addr} {Γ : Ga} {t0 t1 : TE} {g : Fv} {x y : Rat}  (h0 : EvG l t0 Γ (pFive K g)) (h1 : EvG l t1 Γ (pHd K 16 x y)) (hc : x * x + y * y = 1) : EvG l (tCall (sp_check_needle K) [] E0 (tCons t0 (tCons t1 tNil))) Γ (pV .non) := e_call (fun _ _ _ pp kk => ⟨g, x, y, hc, pp, kk⟩) (a_cons h0 (a_cons h1 a_nil))
theorem sc_check_needle : FnScope ["five", "heading"] ["five", "heading"] (defScope s_check_needle) := ⟨rfl, rfl, rfl, by decide +kernel, rfl, by decide +kernel, by decide +kernel⟩
theorem ok_check_needle (T : Txt K mg) : Fn P w K mg base 7 "check_needle" ["five", "heading"] (sp_check_needle K) := by
  refine fn_mk T 49 47 rfl rfl sc_check_needle (fun vs H Q E h => len_check_needle h) (fun _ _ _ _ _ _ us hl => match us, hl with | [_, _], _ => rfl) (fun f cdv A outer s H vs Q E hr h => ?_)
  obtain ⟨g, x, y, hc, hp, k⟩ := h
  refine ⟨_, (pss_cons (ps_expr (pe_fn (ok_check_five T) (hr.mono (by decide)) (pa_cons (pv 0) pa_nil)))
      (pss_one (ps_expr (pe_fn (ok_check_heading T) (hr.mono (by decide)) (pa_cons (pv 1) pa_nil))))), ?_⟩
  refine (?_ : Run none H _ _ ([some (pFive K g), some (pHd K 16 x y)] : Ga)) _ H (Same.refl H) (fits0 hp trivial rfl)
  exact r_drop (e_check_five (e_var rfl)) (fun σ H2 u f => e_check_heading (K := K) (e_var rfl) ⟨hc, by omega⟩ σ H2 _ f fun v H' u' _ => k _ _ (u.trans u') rfl)
/-! course_at -/
def sp_course_at (K : PySem.W.Frag) : Sp := fun vs H Q _ => ∃ (g : Fv) (x y : Rat), (x * x + y * y = 1) ∧ AllP [pFive K g, pHd K 16 x y] vs H ∧ ∀ v H', Same H H' → (pO K (shown g (x, y)) : Pd) v H' → Q v H'
theorem len_course_at {vs : List V} {H : Hp} {Q : VK} {E : XK} (h : sp_course_at K vs H Q E) : vs.length = 2 := by
  obtain ⟨_, _, _, _, pp, _⟩ := h
  exact AllP.len pp
theorem e_course_at {Γ : Ga} {t0 t1 : TE} {g : Fv} {x y : Rat}  (h0 : EvG none t0 Γ (pFive K g)) (h1 : EvG none t1 Γ (pHd K 16 x y)) (hc : x * x + y * y = 1) : EvG none (tCall (sp_course_at K) [] E0 (tCons t0 (tCons t1 tNil))) Γ (pO K (shown g (x, y))) := e_call (fun _ _ _ pp kk => ⟨g, x, y, hc, pp, kk⟩) (a_cons h0 (a_cons h1 a_nil))
theorem sc_course_at : FnScope ["five", "heading"] ["five", "heading"] (defScope s_course_at) := ⟨rfl, rfl, rfl, by decide +kernel, rfl, by decide +kernel, by decide +kernel⟩
theorem ok_course_at (T : Txt K mg) : Fn P w K mg base 8 "course_at" ["five", "heading"] (sp_course_at K) := by
  refine fn_mk T 50 48 rfl rfl sc_course_at (fun vs H Q E h => len_course_at h) (fun _ _ _ _ _ _ us hl => match us, hl with | [_, _], _ => rfl) (fun f cdv A outer s H vs Q E hr h => ?_)
  obtain ⟨g, x, y, hc, hp, k⟩ := h
  refine ⟨_, (pss_cons (ps_expr (pe_fn (ok_check_needle T) (hr.mono (by decide)) (pa_cons (pv 0) (pa_cons (pv 1) pa_nil))))
      (pss_one (ps_ret (pe_fn (ok_course_shown T) (hr.mono (by decide)) (pa_cons (pv 0) (pa_cons (pv 1) pa_nil)))))), ?_⟩
  refine (?_ : Run none H _ _ ([some (pFive K g), some (pHd K 16 x y)] : Ga)) _ H (Same.refl H) (fits0 hp trivial rfl)
  exact r_drop (e_check_needle (e_var rfl) (e_var rfl) hc) (r_done (e_course_shown (e_var rfl) (e_var rfl)) k)
end
end K30

/-! text: KLaw1 -/
set_option Elab.async false
set_option linter.all false
set_option maxRecDepth 100000
set_option maxHeartbeats 4000000
namespace K30
open PySem PySem.Spec PyProof.Rows L2 K30M
section
variable {P : Program} {w : World} {K : PySem.W.Frag} {mg : Str → Option Value} {base : Heap}
/-! while, and a loop over a list -/
section
variable {l : Option Addr} {H0 : Hp} {D : Ends} {Γ : Ga} {P P' P0 P1 P2 : Pd} {Ps : List Pd} {te : TE} {tt : TT} {tb t : TS} {tr : TA} {i j : Nat}
theorem r_parN (h : EvA l tr Γ [P, P']) (q : ∀ σ H, Up l H0 H → Fits l (pt (pt Γ i (some P)) j (some P')) σ H → D.nx σ H) : Run l H0 (tPar i j tr) D Γ := fun σ H u f =>
  h σ H _ f fun vs H1 u1 bx => by
    match vs, bx with
    | [v, w], bx => exact ⟨v, w, rfl, q _ H1 (u.trans u1) (((f.up u1).put bx.1).put bx.2.1)⟩
theorem r_while {α : Type} (Γs : α → Ga) (μ : α → Nat) (b : α → Bool) (x0 : α) (ht : ∀ x, EvT l tt (Γs x) (b x)) (step : ∀ x, b x = true → ∀ H1 N, (∀ y σ H, μ y < μ x → Up l H1 H → Fits l (Γs y) σ H → N σ H) → Run l H1 tb { D with nx := N, ct := N, bk := t D } (Γs x))
    (after : ∀ x, b x = false → Run l H0 t D (Γs x)) : Run l H0 (tSeq (tWhile tt tb) t) D (Γs x0) := fun σ H u f => by
  refine ⟨fun m σ H => ∃ x, μ x = m ∧ Up l H0 H ∧ Fits l (Γs x) σ H, ⟨_, x0, rfl, u, f⟩, ?_⟩
  rintro m σ H ⟨x, rfl, u, f⟩
  refine ht x σ H _ f fun H1 u1 => ?_
  cases e : b x with
  | true =>
    rw [if_pos rfl]
    exact ⟨fun σ' H' => ∃ y, μ y < μ x ∧ Up l H0 H' ∧ Fits l (Γs y) σ' H', fun σ' H' ⟨y, h1, h2, h3⟩ => ⟨_, h1, y, rfl, h2, h3⟩, step x e H1 _ (fun y σ' H' h1 h2 h3 => ⟨y, h1, (u.trans u1).trans h2, h3⟩) σ H1 (Up.refl u1.lo) (f.up u1)⟩
  | false =>
    rw [if_neg Bool.false_ne_true]
    exact after x e σ H1 (u.trans u1) (f.up u1)
theorem r_forL [mm : MoL none Ps] (Γs : Nat → Ga) (hs : EvG none te (Γs 0) (pL K Ps)) (step : ∀ H1, Up none H0 H1 → ∀ k P, Ps[k]? = some P → TurnF none H1 tb { D with nx := t D } (t D) (pt (Γs k) i (some P)) (Γs (k + 1)))
    (after : Run none H0 t D (Γs Ps.length)) : Run none H0 (tSeq (tFor (iList K te) (gName i) tb) t) D (Γs 0) := fun σ H u f =>
  hs σ H _ f fun v H1 u1 b1 => by
    obtain ⟨a, xs, e, s, p⟩ := Box.now u1.lo b1
    have bl := boxL_of (l := none) u1.lo p
    have lx := AllP.len p
    refine ⟨a, e, ⟨xs, s⟩, for_list (K := K) (a := a) (xs := xs) (fun k σ' H' => Up none H0 H' ∧ Up none H1 H' ∧ Fits none (Γs k) σ' H') ⟨u.trans u1, Up.refl u1.lo, f.up u1⟩ (fun k σ' H' _ hp => Same.seq hp.2.1 s) (fun k x σ' H' hx hp => ?_) fun σ' H' hp => ?_⟩
    · have hk : k < xs.length := (List.getElem?_eq_some_iff.mp hx).1
      have hP : Ps[k]? = some Ps[k] := List.getElem?_eq_getElem (by omega)
      have bx : Box none Ps[k] x H1 := BoxL.at bl hP hx
      exact step H1 (u.trans u1) k _ hP _ (fun σ2 H2 u2 f2 => ⟨(u.trans u1).trans u2, u2, f2⟩) _ H' hp.2.1 (hp.2.2.put (Box.up hp.2.1 bx))
    · exact after σ' H' hp.1 (by rw [← lx]; exact hp.2.2)
end
theorem r_forL3 {H0 : Hp} {D : Ends} {Γ Γ1 Γ2 Γ3 : Ga} {P0 P1 P2 : Pd} {te : TE} {tb t : TS} {i : Nat} [mm : MoL none [P0, P1, P2]] (hs : EvG none te Γ (pL K [P0, P1, P2])) (s0 : ∀ H1, TurnF none H1 tb { D with nx := t D } (t D) (pt Γ i (some P0)) Γ1) (s1 : ∀ H1, TurnF none H1 tb { D with nx := t D } (t D) (pt Γ1 i (some P1)) Γ2) (s2 : ∀ H1, TurnF none H1 tb { D with nx := t D } (t D) (pt Γ2 i (some P2)) Γ3)
    (after : Run none H0 t D Γ3) : Run none H0 (tSeq (tFor (iList K te) (gName i) tb) t) D Γ := by
  refine r_forL (Ps := [P0, P1, P2]) (fun k => match k with | 0 => Γ | 1 => Γ1 | 2 => Γ2 | _ => Γ3) hs (fun H1 _ k P hP => ?_) after
  match k, hP with
  | 0, hP =>
    cases hP
    exact s0 H1
  | 1, hP =>
    cases hP
    exact s1 H1
  | 2, hP =>
    cases hP
    exact s2 H1
  | k + 3, hP => simp at hP
theorem e_mod {l : Option Addr} {Γ : Ga} {ta tb : TE} {m n : Int} (h : 0 < n) (ha : EvG l ta Γ (pV (.int m))) (hb : EvG l tb Γ (pV (.int n))) : EvG l (tOp (rI (fun _ j => 0 < j) fun i j => .int (i % j)) ta tb) Γ (pV (.int (m % n))) := e_I h ha hb
/-! law_gcd -/
def sp_law_gcd (K : PySem.W.Frag) : Sp := fun vs H Q _ => ∃ (m n : Int), (True) ∧ AllP [pV (.int m), pV (.int n)] vs H ∧ ∀ v H', Same H H' → (pV (.int (gcdI m n)) : Pd) v H' → Q v H'
theorem len_law_gcd {vs : List V} {H : Hp} {Q : VK} {E : XK} (h : sp_law_gcd K vs H Q E) : vs.length = 2 := by
  obtain ⟨_, _, _, pp, _⟩ := h
  exact AllP.len pp
theorem e_law_gcd {l : Option Addr} {Γ : Ga} {t0 t1 : TE} {m n : Int}  (h0 : EvG l t0 Γ (pV (.int m))) (h1 : EvG l t1 Γ (pV (.int n))) : EvG l (tCall (sp_law_gcd K) [] E0 (tCons t0 (tCons t1 tNil))) Γ (pV (.int (gcdI m n))) := e_call (fun _ _ _ pp kk => ⟨m, n, trivial, pp, kk⟩) (a_cons h0 (a_cons h1 a_nil))
theorem sc_law_gcd : FnScope ["_law_one", "_law_two"] ["_law_one", "_law_two"] (defScope s_law_gcd) := ⟨rfl, rfl, rfl, by decide +kernel, rfl, by decide +kernel, by decide +kernel⟩
theorem ok_law_gcd (T : Txt K mg) : Fn P w K mg base 1 "_law_gcd" ["_law_one", "_law_two"] (sp_law_gcd K) := by
  refine fn_mk T 55 53 rfl rfl sc_law_gcd (fun vs H Q E h => len_law_gcd h) (fun _ _ _ _ _ _ us hl => match us, hl with | [_, _], _ => rfl) (fun f cdv A outer s H vs Q E hr h => ?_)
  obtain ⟨m, n, hc, hp, k⟩ := h
  refine ⟨_, (pss_cons (ps_par (i := 0) (j := 1) rfl sc_law_gcd.nd rfl rfl (by decide) rfl rfl (pa_cons (pe_callB call_abs rfl (T.free 99 rfl) (by decide +kernel) (pa_cons (pv 0) pa_nil)) (pa_cons (pe_callB call_abs rfl (T.free 99 rfl) (by decide +kernel) (pa_cons (pv 1) pa_nil)) pa_nil)) (by rfl))
      (pss_cons (ps_while PassesOwn.never (pt_cmpR op_gt (pv 1) pe_int (nomark _)) (pss_one (ps_par (i := 0) (j := 1) rfl sc_law_gcd.nd rfl rfl (by decide) rfl rfl (pa_cons (pv 1) (pa_cons (pe_op op_mod (pe_callTy call_int1 rfl (T.free 103 rfl) (by decide +kernel) (pa_cons (pv 0) pa_nil)) (pv 1)) pa_nil)) (by rfl))))
      (pss_one (ps_ret (pv 0))))), ?_⟩
  refine (?_ : Run none H _ _ ([some (pV (.int m)), some (pV (.int n))] : Ga)) _ H (Same.refl H) (fits0 hp trivial rfl)
  refine r_par (a_cons (e_abs (e_var rfl)) (a_cons (e_abs (e_var rfl)) a_nil)) ?_
  refine r_while (α := { p : Nat × Nat // Nat.gcd p.1 p.2 = Nat.gcd m.natAbs n.natAbs }) (fun x => [some (pV (.int (x.1.1 : Int))), some (pV (.int (x.1.2 : Int)))]) (fun x => x.1.2) (fun x => decide ((0 : Int) < (x.1.2 : Int))) ⟨(m.natAbs, n.natAbs), rfl⟩ (fun x => t_of (e_I0 (e_var rfl) e_c)) (fun x hb H1 N hN => ?_) fun x hb => ?_
  · have h := of_decide_eq_true hb
    obtain ⟨⟨a, b⟩, hx⟩ := x
    have h : (0 : Int) < (b : Int) := h
    have hb0 : 0 < b := by omega
    have hy : Nat.gcd b (a % b) = Nat.gcd m.natAbs n.natAbs := by
      have hx : Nat.gcd a b = Nat.gcd m.natAbs n.natAbs := hx
      rw [← hx, Nat.gcd_comm a b, Nat.gcd_rec b a, Nat.gcd_comm]
    refine r_parN (a_cons (e_var rfl) (a_cons (e_int (e_mod h (e_int1 (e_var rfl)) (e_var rfl)) rfl) a_nil)) fun σ H' u f => hN ⟨(b, a % b), hy⟩ σ H' (Nat.mod_lt _ hb0) u f
  · have h := of_decide_eq_false hb
    obtain ⟨⟨a, b⟩, hx⟩ := x
    refine r_done (e_int (e_var rfl) ?_) k
    have h : ¬ (0 : Int) < (b : Int) := h
    have hb0 : b = 0 := by omega
    have hx : Nat.gcd a b = Nat.gcd m.natAbs n.natAbs := hx
    rw [hb0, Nat.gcd_zero_right] at hx
    unfold gcdI
    show (a : Int) = _
    rw [hx]
/-! law_low -/
def sp_law_low (K : PySem.W.Frag) : Sp := fun vs H Q _ => ∃ (a b : Int), (0 < b ∧ a.natAbs < 2 ^ 13500 ∧ b.natAbs < 2 ^ 13500) ∧ AllP [pW2 K a b] vs H ∧ ∀ v H', Same H H' → (pW2 K (a / gcdI a b) (b / gcdI a b) : Pd) v H' → Q v H'
theorem len_law_low {vs : List V} {H : Hp} {Q : VK} {E : XK} (h : sp_law_low K vs H Q E) : vs.length = 1 := by
  obtain ⟨_, _, _, pp, _⟩ := h
  exact AllP.len pp
theorem e_law_low {l : Option Addr} {Γ : Ga} {t0 : TE} {a b : Int}  (h0 : EvG l t0 Γ (pW2 K a b)) (hc : 0 < b ∧ a.natAbs < 2 ^ 13500 ∧ b.natAbs < 2 ^ 13500) : EvG l (tCall (sp_law_low K) [] E0 (tCons t0 tNil)) Γ (pW2 K (a / gcdI a b) (b / gcdI a b)) := e_call (fun _ _ _ pp kk => ⟨a, b, hc, pp, kk⟩) (a_cons h0 a_nil)
theorem sc_law_low : FnScope ["_law_numbers", "_law_common", "_law_each"] ["_law_numbers"] (defScope s_law_low) := ⟨rfl, rfl, rfl, by decide +kernel, rfl, by decide +kernel, by decide +kernel⟩
theorem ok_law_low (T : Txt K mg) : Fn P w K mg base 2 "_law_low" ["_law_numbers"] (sp_law_low K) := by
  refine fn_mk T 56 54 rfl rfl sc_law_low (fun vs H Q E h => len_law_low h) (fun _ _ _ _ _ _ us hl => match us, hl with | [_], _ => rfl) (fun f cdv A outer s H vs Q E hr h => ?_)
  obtain ⟨a, b, hc, hp, k⟩ := h
  refine ⟨_, (pss_cons (ps_set (i := 1) sc_law_low.nd rfl (Or.inr rfl) pe_int)
      (pss_cons (ps_for PassesOwn.never rfl (pi_tup (pv 0)) (pg_name (i := 2) sc_law_low.nd rfl (by first | exact Or.inl rfl | exact Or.inr rfl)) (pss_one (ps_set (i := 1) sc_law_low.nd rfl (Or.inr rfl) (pe_fn (ok_law_gcd T) (hr.mono (by decide)) (pa_cons (pv 1) (pa_cons (pv 2) pa_nil))))))
      (pss_one (ps_ret (pe_callTy call_tuple_of rfl (T.free 111 rfl) (by decide +kernel) (pa_cons (pe_lc (own := [("_law_each", 2)]) (g := (gName 2)) (tt := tYes) rfl sc_law_low.nd  (pi_tup (pv 0)) (blkOk_by (own := [("_law_each", 2)]) (N := ["_law_numbers", "_law_common", "_law_each"]) (sc := defScope s_law_low) (by decide +kernel)) (fun _ _ _ _ _ => (pg_name (i := 2) sc_law_low.nd rfl (by first | exact Or.inl rfl | exact Or.inr rfl))) (fun _ _ _ _ _ => pts_nil) (fun _ _ _ _ _ => (pe_op op_fdivB (pv 2) (pv 1)))) pa_nil)))))), ?_⟩
  refine (?_ : Run none H _ _ ([some (pW2 K a b), none, none] : Ga)) _ H (Same.refl H) (fits0 hp trivial rfl)
  have g := gcdI_pos (n := a) hc.1
  refine r_set e_c (r_forT2 (Γ1 := [some (pW2 K a b), some (pV (.int (gcdI 0 a))), none]) (Γ2 := [some (pW2 K a b), some (pV (.int (gcdI a b))), none]) (e_var rfl) (fun H1 N hN => ?_) (fun H1 N hN => ?_) ?_)
  · exact r_setN (e_law_gcd (e_var rfl) (e_var rfl)) fun σ H' u f => hN σ H' u (f.weak (by exact ⟨rfl, rfl, trivial⟩))
  · refine r_setN (e_int (e_law_gcd (e_var rfl) (e_var rfl)) ?_) fun σ H' u f => hN σ H' u (f.weak (by exact ⟨rfl, rfl, trivial⟩))
    unfold gcdI
    rw [Int.natAbs_zero, Nat.gcd_zero_left, Int.natAbs_natCast]
  · exact r_done (e_tupL (K := K) (e_lcT (K := K) (Rs := [pV (.int (a / gcdI a b)), pV (.int (b / gcdI a b))]) (e_var rfl) ⟨turn1_name (e_div hc.2.1 g (e_var rfl) (e_var rfl)), turn1_name (e_div hc.2.2 g (e_var rfl) (e_var rfl)), trivial⟩)) k
/-! law_part -/
def sp_law_part (K : PySem.W.Frag) : Sp := fun vs H Q _ => ∃ (n u : Int) (m : Nat), (0 < u ∧ n.natAbs < 2 ^ m ∧ u.natAbs < 2 ^ m ∧ m ≤ 13500) ∧ AllP [pV (.int n), pV (.int u)] vs H ∧ ∀ v H', Same H H' → (pQ K m ((n : Rat) / (u : Rat)) : Pd) v H' → Q v H'
theorem len_law_part {vs : List V} {H : Hp} {Q : VK} {E : XK} (h : sp_law_part K vs H Q E) : vs.length = 2 := by
  obtain ⟨_, _, _, _, pp, _⟩ := h
  exact AllP.len pp
theorem e_law_part {l : Option Addr} {Γ : Ga} {t0 t1 : TE} {n u : Int} {m : Nat}  (h0 : EvG l t0 Γ (pV (.int n))) (h1 : EvG l t1 Γ (pV (.int u))) (hc : 0 < u ∧ n.natAbs < 2 ^ m ∧ u.natAbs < 2 ^ m ∧ m ≤ 13500) : EvG l (tCall (sp_law_part K) [] E0 (tCons t0 (tCons t1 tNil))) Γ (pQ K m ((n : Rat) / (u : Rat))) := e_call (fun _ _ _ pp kk => ⟨n, u, m, hc, pp, kk⟩) (a_cons h0 (a_cons h1 a_nil))
theorem sc_law_part : FnScope ["_law_top", "_law_deep"] ["_law_top", "_law_deep"] (defScope s_law_part) := ⟨rfl, rfl, rfl, by decide +kernel, rfl, by decide +kernel, by decide +kernel⟩
theorem ok_law_part (T : Txt K mg) : Fn P w K mg base 3 "_law_part" ["_law_top", "_law_deep"] (sp_law_part K) := by
  refine fn_mk T 57 55 rfl rfl sc_law_part (fun vs H Q E h => len_law_part h) (fun _ _ _ _ _ _ us hl => match us, hl with | [_, _], _ => rfl) (fun f cdv A outer s H vs Q E hr h => ?_)
  obtain ⟨n, u, m, hc, hp, k⟩ := h
  refine ⟨_, (pss_one (ps_ret (pe_fn (ok_law_low T) (hr.mono (by decide)) (pa_cons (pe_ifExp (pt_cmpR op_gt (pv 1) pe_int (nomark _)) (pe_tup (pa_cons (pv 0) (pa_cons (pv 1) pa_nil))) (pe_tup (pa_cons (pe_op op_sub pe_int (pv 0)) (pa_cons (pe_op op_sub pe_int (pv 1)) pa_nil)))) pa_nil)))), ?_⟩
  refine (?_ : Run none H _ _ ([some (pV (.int n)), some (pV (.int u))] : Ga)) _ H (Same.refl H) (fits0 hp trivial rfl)
  obtain ⟨hu, h1, h2, hm⟩ := hc
  have g1 := Nat.lt_of_lt_of_le h1 (pow_le hm)
  have g2 := Nat.lt_of_lt_of_le h2 (pow_le hm)
  obtain ⟨d1, d2⟩ := div_nd n u hu
  refine r_done (f_q (e_to (e_law_low (e_ifT (t_is (t_of (e_I0 (e_var rfl) e_c)) (decide_eq_true hu)) (e_tup (K := K) (a_cons (e_var rfl) (a_cons (e_var rfl) a_nil)))) ⟨hu, g1, g2⟩) ?_) (bd_div hu h1 h2)) k
  unfold pF
  rw [d1, d2]
  rfl
/-! law_add -/
def sp_law_add (K : PySem.W.Frag) : Sp := fun vs H Q _ => ∃ (x y : Rat) (m n : Nat), (m + n + 1 ≤ 13500) ∧ AllP [pQ K m x, pQ K n y] vs H ∧ ∀ v H', Same H H' → (pQ K (m + n + 1) (x + y) : Pd) v H' → Q v H'
theorem len_law_add {vs : List V} {H : Hp} {Q : VK} {E : XK} (h : sp_law_add K vs H Q E) : vs.length = 2 := by
  obtain ⟨_, _, _, _, _, pp, _⟩ := h
  exact AllP.len pp
theorem e_law_add {l : Option Addr} {Γ : Ga} {t0 t1 : TE} {x y : Rat} {m n : Nat}  (h0 : EvG l t0 Γ (pQ K m x)) (h1 : EvG l t1 Γ (pQ K n y)) (hc : m + n + 1 ≤ 13500) : EvG l (tCall (sp_law_add K) [] E0 (tCons t0 (tCons t1 tNil))) Γ (pQ K (m + n + 1) (x + y)) := e_call (fun _ _ _ pp kk => ⟨x, y, m, n, hc, pp, kk⟩) (a_cons h0 (a_cons h1 a_nil))
theorem sc_law_add : FnScope ["_law_one", "_law_two"] ["_law_one", "_law_two"] (defScope s_law_add) := ⟨rfl, rfl, rfl, by decide +kernel, rfl, by decide +kernel, by decide +kernel⟩
theorem ok_law_add (T : Txt K mg) : Fn P w K mg base 4 "_law_add" ["_law_one", "_law_two"] (sp_law_add K) := by
  refine fn_mk T 58 56 rfl rfl sc_law_add (fun vs H Q E h => len_law_add h) (fun _ _ _ _ _ _ us hl => match us, hl with | [_, _], _ => rfl) (fun f cdv A outer s H vs Q E hr h => ?_)
  obtain ⟨x, y, m, n, hc, hp, k⟩ := h
  obtain ⟨hx, hy⟩ : Bd m x ∧ Bd n y := by
    obtain ⟨_, _, _, q1, q2⟩ := AllP.two hp
    exact ⟨q1.1, q2.1⟩
  refine ⟨_, (pss_one (ps_ret (pe_fn (ok_law_part T) (hr.mono (by decide)) (pa_cons (pe_op op_add (pe_op op_mulX (pe_ix ix_tup (pv 0) pe_int (fun _ _ => rfl)) (pe_ix ix_tup (pv 1) pe_int (fun _ _ => rfl))) (pe_op op_mulX (pe_ix ix_tup (pv 1) pe_int (fun _ _ => rfl)) (pe_ix ix_tup (pv 0) pe_int (fun _ _ => rfl)))) (pa_cons (pe_op op_mulX (pe_ix ix_tup (pv 0) pe_int (fun _ _ => rfl)) (pe_ix ix_tup (pv 1) pe_int (fun _ _ => rfl))) pa_nil))))), ?_⟩
  refine (?_ : Run none H _ _ ([some (pQ K m x), some (pQ K n y)] : Ga)) _ H (Same.refl H) (fits0 hp trivial rfl)
  obtain ⟨b1, b2, _⟩ := bd_sum hx hy
  rw [sum_as x y] at k
  exact r_done (e_law_part (e_I0 (e_mul hx.1 (denI hy.2) (by omega) (e_num (e_var rfl)) (e_den (e_var rfl))) (e_mul hy.1 (denI hx.2) (by omega) (e_num (e_var rfl)) (e_den (e_var rfl)))) (e_mul (denI hx.2) (denI hy.2) (by omega) (e_den (e_var rfl)) (e_den (e_var rfl))) ⟨Int.mul_pos (den_pos x) (den_pos y), b1, b2, hc⟩) k
/-! law_gap -/
def sp_law_gap (K : PySem.W.Frag) : Sp := fun vs H Q _ => ∃ (x y : Rat) (m n : Nat), (m + n + 1 ≤ 13500) ∧ AllP [pQ K m x, pQ K n y] vs H ∧ ∀ v H', Same H H' → (pQ K (m + n + 1) (x - y) : Pd) v H' → Q v H'
theorem len_law_gap {vs : List V} {H : Hp} {Q : VK} {E : XK} (h : sp_law_gap K vs H Q E) : vs.length = 2 := by
  obtain ⟨_, _, _, _, _, pp, _⟩ := h
  exact AllP.len pp
theorem e_law_gap {l : Option Addr} {Γ : Ga} {t0 t1 : TE} {x y : Rat} {m n : Nat}  (h0 : EvG l t0 Γ (pQ K m x)) (h1 : EvG l t1 Γ (pQ K n y)) (hc : m + n + 1 ≤ 13500) : EvG l (tCall (sp_law_gap K) [] E0 (tCons t0 (tCons t1 tNil))) Γ (pQ K (m + n + 1) (x - y)) := e_call (fun _ _ _ pp kk => ⟨x, y, m, n, hc, pp, kk⟩) (a_cons h0 (a_cons h1 a_nil))
theorem sc_law_gap : FnScope ["_law_one", "_law_two"] ["_law_one", "_law_two"] (defScope s_law_gap) := ⟨rfl, rfl, rfl, by decide +kernel, rfl, by decide +kernel, by decide +kernel⟩
theorem ok_law_gap (T : Txt K mg) : Fn P w K mg base 4 "_law_gap" ["_law_one", "_law_two"] (sp_law_gap K) := by
  refine fn_mk T 59 57 rfl rfl sc_law_gap (fun vs H Q E h => len_law_gap h) (fun _ _ _ _ _ _ us hl => match us, hl with | [_, _], _ => rfl) (fun f cdv A outer s H vs Q E hr h => ?_)
  obtain ⟨x, y, m, n, hc, hp, k⟩ := h
  obtain ⟨hx, hy⟩ : Bd m x ∧ Bd n y := by
    obtain ⟨_, _, _, q1, q2⟩ := AllP.two hp
    exact ⟨q1.1, q2.1⟩
  refine ⟨_, (pss_one (ps_ret (pe_fn (ok_law_part T) (hr.mono (by decide)) (pa_cons (pe_op op_sub (pe_op op_mulX (pe_ix ix_tup (pv 0) pe_int (fun _ _ => rfl)) (pe_ix ix_tup (pv 1) pe_int (fun _ _ => rfl))) (pe_op op_mulX (pe_ix ix_tup (pv 1) pe_int (fun _ _ => rfl)) (pe_ix ix_tup (pv 0) pe_int (fun _ _ => rfl)))) (pa_cons (pe_op op_mulX (pe_ix ix_tup (pv 0) pe_int (fun _ _ => rfl)) (pe_ix ix_tup (pv 1) pe_int (fun _ _ => rfl))) pa_nil))))), ?_⟩
  refine (?_ : Run none H _ _ ([some (pQ K m x), some (pQ K n y)] : Ga)) _ H (Same.refl H) (fits0 hp trivial rfl)
  obtain ⟨b1, b2, _⟩ := bd_sub hx hy
  rw [sub_as x y] at k
  exact r_done (e_law_part (e_I0 (e_mul hx.1 (denI hy.2) (by omega) (e_num (e_var rfl)) (e_den (e_var rfl))) (e_mul hy.1 (denI hx.2) (by omega) (e_num (e_var rfl)) (e_den (e_var rfl)))) (e_mul (denI hx.2) (denI hy.2) (by omega) (e_den (e_var rfl)) (e_den (e_var rfl))) ⟨Int.mul_pos (den_pos x) (den_pos y), b1, b2, hc⟩) k
/-! law_mul -/
def sp_law_mul (K : PySem.W.Frag) : Sp := fun vs H Q _ => ∃ (x y : Rat) (m n : Nat), (m + n ≤ 13500) ∧ AllP [pQ K m x, pQ K n y] vs H ∧ ∀ v H', Same H H' → (pQ K (m + n) (x * y) : Pd) v H' → Q v H'
theorem len_law_mul {vs : List V} {H : Hp} {Q : VK} {E : XK} (h : sp_law_mul K vs H Q E) : vs.length = 2 := by
  obtain ⟨_, _, _, _, _, pp, _⟩ := h
  exact AllP.len pp
theorem e_law_mul {l : Option Addr} {Γ : Ga} {t0 t1 : TE} {x y : Rat} {m n : Nat}  (h0 : EvG l t0 Γ (pQ K m x)) (h1 : EvG l t1 Γ (pQ K n y)) (hc : m + n ≤ 13500) : EvG l (tCall (sp_law_mul K) [] E0 (tCons t0 (tCons t1 tNil))) Γ (pQ K (m + n) (x * y)) := e_call (fun _ _ _ pp kk => ⟨x, y, m, n, hc, pp, kk⟩) (a_cons h0 (a_cons h1 a_nil))
theorem sc_law_mul : FnScope ["_law_one", "_law_two"] ["_law_one", "_law_two"] (defScope s_law_mul) := ⟨rfl, rfl, rfl, by decide +kernel, rfl, by decide +kernel, by decide +kernel⟩
theorem ok_law_mul (T : Txt K mg) : Fn P w K mg base 4 "_law_mul" ["_law_one", "_law_two"] (sp_law_mul K) := by
  refine fn_mk T 60 58 rfl rfl sc_law_mul (fun vs H Q E h => len_law_mul h) (fun _ _ _ _ _ _ us hl => match us, hl with | [_, _], _ => rfl) (fun f cdv A outer s H vs Q E hr h => ?_)
  obtain ⟨x, y, m, n, hc, hp, k⟩ := h
  obtain ⟨hx, hy⟩ : Bd m x ∧ Bd n y := by
    obtain ⟨_, _, _, q1, q2⟩ := AllP.two hp
    exact ⟨q1.1, q2.1⟩
  refine ⟨_, (pss_one (ps_ret (pe_fn (ok_law_part T) (hr.mono (by decide)) (pa_cons (pe_op op_mulX (pe_ix ix_tup (pv 0) pe_int (fun _ _ => rfl)) (pe_ix ix_tup (pv 1) pe_int (fun _ _ => rfl))) (pa_cons (pe_op op_mulX (pe_ix ix_tup (pv 0) pe_int (fun _ _ => rfl)) (pe_ix ix_tup (pv 1) pe_int (fun _ _ => rfl))) pa_nil))))), ?_⟩
  refine (?_ : Run none H _ _ ([some (pQ K m x), some (pQ K n y)] : Ga)) _ H (Same.refl H) (fits0 hp trivial rfl)
  obtain ⟨b1, b2, _⟩ := bd_mul hx hy
  rw [mul_as x y] at k
  exact r_done (e_law_part (e_mul hx.1 hy.1 (by omega) (e_num (e_var rfl)) (e_num (e_var rfl))) (e_mul (denI hx.2) (denI hy.2) (by omega) (e_den (e_var rfl)) (e_den (e_var rfl))) ⟨Int.mul_pos (den_pos x) (den_pos y), b1, b2, hc⟩) k
/-! law_div -/
def sp_law_div (K : PySem.W.Frag) : Sp := fun vs H Q _ => ∃ (x y : Rat) (m n : Nat), (0 < y ∧ m + n ≤ 13500) ∧ AllP [pQ K m x, pQ K n y] vs H ∧ ∀ v H', Same H H' → (pQ K (m + n) (x / y) : Pd) v H' → Q v H'
theorem len_law_div {vs : List V} {H : Hp} {Q : VK} {E : XK} (h : sp_law_div K vs H Q E) : vs.length = 2 := by
  obtain ⟨_, _, _, _, _, pp, _⟩ := h
  exact AllP.len pp
theorem e_law_div {l : Option Addr} {Γ : Ga} {t0 t1 : TE} {x y : Rat} {m n : Nat}  (h0 : EvG l t0 Γ (pQ K m x)) (h1 : EvG l t1 Γ (pQ K n y)) (hc : 0 < y ∧ m + n ≤ 13500) : EvG l (tCall (sp_law_div K) [] E0 (tCons t0 (tCons t1 tNil))) Γ (pQ K (m + n) (x / y)) := e_call (fun _ _ _ pp kk => ⟨x, y, m, n, hc, pp, kk⟩) (a_cons h0 (a_cons h1 a_nil))
theorem sc_law_div : FnScope ["_law_one", "_law_two"] ["_law_one", "_law_two"] (defScope s_law_div) := ⟨rfl, rfl, rfl, by decide +kernel, rfl, by decide +kernel, by decide +kernel⟩
theorem ok_law_div (T : Txt K mg) : Fn P w K mg base 4 "_law_div" ["_law_one", "_law_two"] (sp_law_div K) := by
  refine fn_mk T 61 59 rfl rfl sc_law_div (fun vs H Q E h => len_law_div h) (fun _ _ _ _ _ _ us hl => match us, hl with | [_, _], _ => rfl) (fun f cdv A outer s H vs Q E hr h => ?_)
  obtain ⟨x, y, m, n, hc, hp, k⟩ := h
  obtain ⟨hx, hy⟩ : Bd m x ∧ Bd n y := by
    obtain ⟨_, _, _, q1, q2⟩ := AllP.two hp
    exact ⟨q1.1, q2.1⟩
  refine ⟨_, (pss_one (ps_ret (pe_fn (ok_law_part T) (hr.mono (by decide)) (pa_cons (pe_op op_mulX (pe_ix ix_tup (pv 0) pe_int (fun _ _ => rfl)) (pe_ix ix_tup (pv 1) pe_int (fun _ _ => rfl))) (pa_cons (pe_op op_mulX (pe_ix ix_tup (pv 0) pe_int (fun _ _ => rfl)) (pe_ix ix_tup (pv 1) pe_int (fun _ _ => rfl))) pa_nil))))), ?_⟩
  refine (?_ : Run none H _ _ ([some (pQ K m x), some (pQ K n y)] : Ga)) _ H (Same.refl H) (fits0 hp trivial rfl)
  obtain ⟨b1, b2, b3, _⟩ := bd_over hc.1 hx hy
  rw [over_as x y hc.1] at k
  exact r_done (e_law_part (e_mul hx.1 (denI hy.2) (by omega) (e_num (e_var rfl)) (e_den (e_var rfl))) (e_mul (denI hx.2) hy.1 (by omega) (e_den (e_var rfl)) (e_num (e_var rfl))) ⟨b3, b1, b2, hc.2⟩) k
/-! law_back -/
def sp_law_back (K : PySem.W.Frag) : Sp := fun vs H Q _ => ∃ (x : Rat) (m : Nat), (True) ∧ AllP [pQ K m x] vs H ∧ ∀ v H', Same H H' → (pQ K m (-x) : Pd) v H' → Q v H'
theorem len_law_back {vs : List V} {H : Hp} {Q : VK} {E : XK} (h : sp_law_back K vs H Q E) : vs.length = 1 := by
  obtain ⟨_, _, _, pp, _⟩ := h
  exact AllP.len pp
theorem e_law_back {l : Option Addr} {Γ : Ga} {t0 : TE} {x : Rat} {m : Nat}  (h0 : EvG l t0 Γ (pQ K m x)) : EvG l (tCall (sp_law_back K) [] E0 (tCons t0 tNil)) Γ (pQ K m (-x)) := e_call (fun _ _ _ pp kk => ⟨x, m, trivial, pp, kk⟩) (a_cons h0 a_nil)
theorem sc_law_back : FnScope ["_law_one"] ["_law_one"] (defScope s_law_back) := ⟨rfl, rfl, rfl, by decide +kernel, rfl, by decide +kernel, by decide +kernel⟩
theorem ok_law_back (T : Txt K mg) : Fn P w K mg base 1 "_law_back" ["_law_one"] (sp_law_back K) := by
  refine fn_mk T 62 60 rfl rfl sc_law_back (fun vs H Q E h => len_law_back h) (fun _ _ _ _ _ _ us hl => match us, hl with | [_], _ => rfl) (fun f cdv A outer s H vs Q E hr h => ?_)
  obtain ⟨x, m, hc, hp, k⟩ := h
  refine ⟨_, (pss_one (ps_ret (pe_tup (pa_cons (pe_op op_sub pe_int (pe_ix ix_tup (pv 0) pe_int (fun _ _ => rfl))) (pa_cons (pe_ix ix_tup (pv 0) pe_int (fun _ _ => rfl)) pa_nil))))), ?_⟩
  refine (?_ : Run none H _ _ ([some (pQ K m x)] : Ga)) _ H (Same.refl H) (fits0 hp trivial rfl)
  obtain ⟨_, _, q1⟩ := AllP.one hp
  refine r_done (f_q (e_to (e_tup (K := K) (a_cons (e_I0 e_c (e_num (e_var rfl))) (a_cons (e_den (e_var rfl)) a_nil))) ?_) (bd_neg q1.1)) k
  unfold pF
  rw [Rat.neg_num, Rat.neg_den, Int.zero_sub]
/-! law_sign -/
def sp_law_sign (K : PySem.W.Frag) : Sp := fun vs H Q _ => ∃ (i : Int), (True) ∧ AllP [pV (.int i)] vs H ∧ ∀ v H', Same H H' → (pV (.int i.sign) : Pd) v H' → Q v H'
theorem len_law_sign {vs : List V} {H : Hp} {Q : VK} {E : XK} (h : sp_law_sign K vs H Q E) : vs.length = 1 := by
  obtain ⟨_, _, pp, _⟩ := h
  exact AllP.len pp
theorem e_law_sign {l : Option Addr} {Γ : Ga} {t0 : TE} {i : Int}  (h0 : EvG l t0 Γ (pV (.int i))) : EvG l (tCall (sp_law_sign K) [] E0 (tCons t0 tNil)) Γ (pV (.int i.sign)) := e_call (fun _ _ _ pp kk => ⟨i, trivial, pp, kk⟩) (a_cons h0 a_nil)
theorem sc_law_sign : FnScope ["_law_number"] ["_law_number"] (defScope s_law_sign) := ⟨rfl, rfl, rfl, by decide +kernel, rfl, by decide +kernel, by decide +kernel⟩
theorem ok_law_sign (T : Txt K mg) : Fn P w K mg base 1 "_law_sign" ["_law_number"] (sp_law_sign K) := by
  refine fn_mk T 63 61 rfl rfl sc_law_sign (fun vs H Q E h => len_law_sign h) (fun _ _ _ _ _ _ us hl => match us, hl with | [_], _ => rfl) (fun f cdv A outer s H vs Q E hr h => ?_)
  obtain ⟨i, hc, hp, k⟩ := h
  refine ⟨_, (pss_one (ps_ret (pe_ifExp (pt_cmpR op_gt (pv 0) pe_int (nomark _)) pe_int (pe_ifExp (pt_cmpR op_lt (pv 0) pe_int (nomark _)) (pe_un un_neg pe_int) pe_int)))), ?_⟩
  refine (?_ : Run none H _ _ ([some (pV (.int i))] : Ga)) _ H (Same.refl H) (fits0 hp trivial rfl)
  refine r_done (e_if (t_of (e_I0 (e_var rfl) e_c)) (fun hb => e_int e_c ?_) (fun hb => e_if (t_of (e_I0 (e_var rfl) e_c)) (fun hb2 => e_int (e_neg e_c) ?_) (fun hb2 => e_int e_c ?_))) k
  · have := of_decide_eq_true hb
    exact (Int.sign_eq_one_of_pos this).symm
  · have := of_decide_eq_true hb2
    exact (Int.sign_eq_neg_one_of_neg this).symm
  · have h1 := of_decide_eq_false hb
    have h2 := of_decide_eq_false hb2
    have : i = 0 := by omega
    rw [this]
    rfl
end
end K30

/-! text: KMath4 -/
set_option linter.all false
set_option maxHeartbeats 4000000
/-! plain mathematics: drawn fractions and headings; the law's sign -/
namespace K30M
/-- a drawn fraction: a whole number no greater than W over one no greater than U -/
def Prt (W U : Nat) (q : Rat) : Prop := ∃ (z : Int) (u : Nat), 0 < u ∧ u ≤ U ∧ z.natAbs ≤ W ∧ q * (u : Rat) = (z : Rat)
theorem Prt.mono {W U W' U' : Nat} {q : Rat} (h : Prt W U q) (h1 : W ≤ W') (h2 : U ≤ U') : Prt W' U' q := by
  obtain ⟨z, u, a, b, c, e⟩ := h
  exact ⟨z, u, a, by omega, by omega, e⟩
theorem Prt.cd {W U : Nat} {q : Rat} (h : Prt W U q) : ∃ u, 0 < u ∧ u ≤ U ∧ Cd u W q := by
  obtain ⟨z, u, a, b, c, e⟩ := h
  refine ⟨u, a, b, z, e, Nat.le_trans c ?_⟩
  exact Nat.le_mul_of_pos_right W a
theorem prt_div {W U : Nat} {z u : Int} (hz : z.natAbs ≤ W) (hu : 0 < u) (h2 : u.natAbs ≤ U) : Prt W U ((z : Rat) / (u : Rat)) := by
  refine ⟨z, u.natAbs, by omega, h2, hz, ?_⟩
  have e : ((u.natAbs : Nat) : Rat) = (u : Rat) := by
    rw [← Rat.intCast_natCast]
    congr 1
    omega
  rw [e]
  have hn : (u : Rat) ≠ 0 := fun q => by
    have : (u : Rat) = ((0 : Int) : Rat) := q
    have := Rat.intCast_inj.mp this
    omega
  grind
theorem prt_zero {W U : Nat} (hU : 1 ≤ U) : Prt W U 0 := ⟨0, 1, by decide, hU, by simp, by decide +kernel⟩
theorem prt_int {W U : Nat} (i : Int) (h : i.natAbs ≤ W) (hU : 1 ≤ U) : Prt W U (i : Rat) := ⟨i, 1, by decide, hU, h, by rw [show ((1 : Nat) : Rat) = 1 from rfl]; grind⟩
def UnitH (h : Rat × Rat) : Prop := h.1 * h.1 + h.2 * h.2 = 1 ∧ ∃ D : Nat, 0 < D ∧ D ≤ 19602 ∧ Cd D 1 h.1 ∧ Cd D 1 h.2
theorem UnitH.bd {h : Rat × Rat} (u : UnitH h) : Bd 16 h.1 ∧ Bd 16 h.2 := by
  obtain ⟨_, D, h0, h1, a, b⟩ := u
  exact ⟨a.bd h0 (by omega) (by omega), b.bd h0 (by omega) (by omega)⟩
theorem sq_le {a b : Nat} (h : a ≤ b) : a * a ≤ b * b := Nat.mul_le_mul h h
theorem head_ok {q : Rat} (h : Prt 99 99 q) : UnitH ((1 - q * q) / (1 + q * q), (2 * q) / (1 + q * q)) := by
  have q0 := sq_nonneg q
  have hw : (1 : Rat) + q * q ≠ 0 := by grind
  obtain ⟨z, u, u0, u1, z1, e⟩ := h
  refine ⟨by grind, ?_⟩
  have hz : ((z.natAbs * z.natAbs : Nat) : Int) = z * z := Int.natAbs_mul_self
  have eD : ((u * u + z.natAbs * z.natAbs : Nat) : Rat) = (u : Rat) * (u : Rat) + (z : Rat) * (z : Rat) := by
    rw [← Rat.intCast_natCast, Int.natCast_add, hz, Rat.intCast_add, Int.natCast_mul, Rat.intCast_mul, Rat.intCast_mul, Rat.intCast_natCast]
  have e2 : (1 + q * q) * ((u : Rat) * (u : Rat)) = (u : Rat) * (u : Rat) + (z : Rat) * (z : Rat) := by
    rw [← e]
    grind
  have g1 := sq_le u1
  have g2 := sq_le z1
  have p1 : 0 < u * u := Nat.mul_pos u0 u0
  refine ⟨u * u + z.natAbs * z.natAbs, by omega, by omega, ⟨(u : Int) * u - z * z, ?_, ?_⟩, ⟨2 * z * u, ?_, ?_⟩⟩
  · rw [eD, ← e2, Rat.intCast_sub, Rat.intCast_mul, Rat.intCast_mul, Rat.intCast_natCast, ← e]
    show (1 - q * q) / (1 + q * q) * _ = _
    grind
  · have : (z * z) = ((z.natAbs * z.natAbs : Nat) : Int) := hz.symm
    rw [this]
    generalize z.natAbs * z.natAbs = zz
    have : ((u : Int) * (u : Int)) = ((u * u : Nat) : Int) := (Int.natCast_mul u u).symm
    rw [this]
    generalize u * u = uu
    omega
  · rw [eD, ← e2, Rat.intCast_mul, Rat.intCast_mul, Rat.intCast_natCast, ← e, show ((2 : Int) : Rat) = 2 from rfl]
    show (2 * q) / (1 + q * q) * _ = _
    grind
  · rw [Nat.one_mul, Int.natAbs_mul, Int.natAbs_mul, Int.natAbs_natCast, show (2 : Int).natAbs = 2 from rfl]
    generalize z.natAbs = a
    rcases Nat.le_total a u with h | h
    · obtain ⟨d, rfl⟩ := Nat.exists_eq_add_of_le h
      have : (a + d) * (a + d) + a * a = 2 * a * (a + d) + d * d := by grind
      omega
    · obtain ⟨d, rfl⟩ := Nat.exists_eq_add_of_le h
      have : u * u + (u + d) * (u + d) = 2 * (u + d) * u + d * d := by grind
      omega
theorem unit_west : UnitH (-1, 0) := by
  refine ⟨by decide +kernel, 1, by decide, by decide, ⟨-1, by decide +kernel, by decide⟩, ⟨0, by decide +kernel, by decide⟩⟩
/-! ### the law's sign -/
theorem sg_tri (x : Rat) : (0 < x ∧ sg x = 1) ∨ (x = 0 ∧ sg x = 0) ∨ (x < 0 ∧ sg x = -1) := by
  by_cases h : x = 0
  · exact .inr (.inl ⟨h, sg_zero h⟩)
  · by_cases p : 0 < x
    · exact .inl ⟨p, sg_pos p⟩
    · have : x < 0 := by grind
      exact .inr (.inr ⟨this, sg_neg this⟩)
def sgb (y z : Rat) : Int := if 0 < z.num then sg y else 0
theorem sgb_tri {x y z t : Rat} (l : Low x y z t) : (sgb y z = 0 ∧ t = 0) ∨ (0 < z ∧ 0 < y ∧ sgb y z = 1 ∧ sg y = 1 ∧ 0 < t) ∨ (0 < z ∧ y < 0 ∧ sgb y z = -1 ∧ sg y = -1 ∧ 0 < t) := by
  unfold sgb
  have t0 := l.t0
  have sq := l.sq
  have z0 := l.z0
  by_cases hz : 0 < z
  · rw [if_pos (num_pos.mpr hz)]
    have tp : y ≠ 0 → 0 < t := fun hy => by
      have h1 := Rat.mul_pos (sq_pos hy) hz
      have h2 : t ≠ 0 := fun q => by
        rw [q] at sq
        grind
      grind
    rcases sg_tri y with ⟨a, b⟩ | ⟨a, b⟩ | ⟨a, b⟩
    · exact .inr (.inl ⟨hz, a, b, b, tp (by grind)⟩)
    · exact .inl ⟨b, sq_zero (by rw [a] at sq; grind)⟩
    · exact .inr (.inr ⟨hz, a, b, b, tp (by grind)⟩)
  · rw [if_neg fun q => hz (num_pos.mp q)]
    have : z = 0 := by grind
    exact .inl ⟨rfl, sq_zero (by rw [this] at sq; grind)⟩
theorem so0 {x y z t : Rat} (l : Low x y z t) (h : sgb y z = 0) : sg x ≤ 0 := by
  have le := l.le
  rcases sgb_tri l with ⟨_, ht⟩ | ⟨_, _, b, _⟩ | ⟨_, _, b, _⟩
  · rw [ht] at le
    rcases sg_tri x with ⟨a, b⟩ | ⟨a, b⟩ | ⟨a, b⟩
    · grind
    · omega
    · omega
  · omega
  · omega
theorem so1 {x y z t : Rat} (l : Low x y z t) (h : sgb y z = sg x ∨ sg x = 0) : sgb y z ≤ 0 := by
  have le := l.le
  rcases sgb_tri l with ⟨b, ht⟩ | ⟨_, _, b, e, tp⟩ | ⟨_, _, b, e, tp⟩
  · omega
  · exfalso
    rw [e, c1] at le
    rcases sg_tri x with ⟨a, c⟩ | ⟨a, c⟩ | ⟨a, c⟩
    · grind
    · grind
    · omega
  · omega
theorem so2 {x y z t : Rat} (l : Low x y z t) (h : sgb y z ≠ 0) (h1 : sg x ≠ sgb y z) (h2 : sg x ≠ 0) : sg (x * x - y * y * z) * sg x ≤ 0 := by
  have le := l.le
  have sq := l.sq
  have t0 := l.t0
  rw [sq]
  rcases sgb_tri l with ⟨b, ht⟩ | ⟨_, _, b, e, tp⟩ | ⟨_, _, b, e, tp⟩
  · exact absurd b h
  · rw [e, c1] at le
    rcases sg_tri x with ⟨a, c⟩ | ⟨a, c⟩ | ⟨a, c⟩
    · omega
    · omega
    · have k : 0 ≤ (-x - t) * (-x + t) := Rat.mul_nonneg (by grind) (by grind)
      rcases sg_tri (x * x - t * t) with ⟨a', c'⟩ | ⟨a', c'⟩ | ⟨a', c'⟩
      · rw [c, c']
        decide
      · rw [c, c']
        decide
      · grind
  · rw [e, cm1] at le
    rcases sg_tri x with ⟨a, c⟩ | ⟨a, c⟩ | ⟨a, c⟩
    · have k : 0 ≤ (t - x) * (t + x) := Rat.mul_nonneg (by grind) (by grind)
      rcases sg_tri (x * x - t * t) with ⟨a', c'⟩ | ⟨a', c'⟩ | ⟨a', c'⟩
      · grind
      · rw [c, c']
        decide
      · rw [c, c']
        decide
    · omega
    · omega
end K30M

/-! text: KLaw2 -/
set_option Elab.async false
set_option linter.all false
set_option maxRecDepth 100000
set_option maxHeartbeats 4000000
namespace K30
open PySem PySem.Spec PyProof.Rows L2 K30M
section
variable {P : Program} {w : World} {K : PySem.W.Frag} {mg : Str → Option Value} {base : Heap}
theorem e_lit {l : Option Addr} {Γ : Ga} {x : Rat} {i : Int} {n : Nat} (e : (i : Rat) = x) (h : i.natAbs < 2 ^ n) (hn : 1 ≤ n) : EvG l (tTup (tCons (tC (.int i)) (tCons (tC (.int 1)) tNil))) Γ (pQ K n x) := q_is (e_whole h hn e_c) e
/-- half an angle: none (west) or a fraction -/
def pH (K : PySem.W.Frag) : Option Rat → Pd
  | none => pV .non
  | some q => pQ K 7 q
instance {l : Option Addr} {o : Option Rat} : Mo l (pH K o) := by
  cases o <;> (unfold pH; infer_instance)
theorem e_isNH {l : Option Addr} {Γ : Ga} {te : TE} {o : Option Rat} (h : EvG l te Γ (pH K o)) : EvG l (tOp rIsN te (tC .non)) Γ (pV (.bl o.isNone)) :=
  e_op (P := pH K o) (P' := pV .non) (fun x y H Q hx hy k => ⟨hy, k _ H (Same.refl H) (by
    show V.bl _ = V.bl _
    cases o with
    | none =>
      have : x = .non := hx
      rw [this]
      rfl
    | some c =>
      obtain ⟨_, a, vs, e, _⟩ := hx
      rw [e]
      rfl)⟩) h e_c
abbrev pHX (K : PySem.W.Frag) : Pd := pX UnitH fun h => pHd K 16 h.1 h.2
theorem e_pair {l : Option Addr} {Γ : Ga} {te : TE} {x y x' y' : Rat} {m n m' n' : Nat} (h : EvG l te Γ (pT K [pQ K m x, pQ K n y])) (e1 : x = x') (e2 : y = y') (b1 : Bd m' x') (b2 : Bd n' y') : EvG l te Γ (pT K [pQ K m' x', pQ K n' y']) := by
  subst e1 e2
  exact h.imp fun v H ⟨a, vs, e, s, p⟩ => by
    obtain ⟨u, w, rfl, p1, p2⟩ := AllP.two p
    exact ⟨a, _, e, s, ⟨b1, p1.2⟩, ⟨b2, p2.2⟩, trivial⟩
theorem e_pairm {l : Option Addr} {Γ : Ga} : EvG l (tTup (tCons (tUn (rU fun i => .int (-i)) (tC (.int 1))) (tCons (tC (.int 1)) tNil))) Γ (pQ K 16 (-1)) := q_is (e_whole (i := -1) (by decide) (by decide) (e_neg e_c)) (by decide +kernel)
/-! law_heading -/
def sp_law_heading (K : PySem.W.Frag) : Sp := fun vs H Q _ => ∃ (o : Option Rat), (∀ q, o = some q → Prt 99 99 q) ∧ AllP [pH K o] vs H ∧ ∀ v H', Same H H' → (pHX K : Pd) v H' → Q v H'
theorem len_law_heading {vs : List V} {H : Hp} {Q : VK} {E : XK} (h : sp_law_heading K vs H Q E) : vs.length = 1 := by
  obtain ⟨_, _, pp, _⟩ := h
  exact AllP.len pp
theorem e_law_heading {l : Option Addr} {Γ : Ga} {t0 : TE} {o : Option Rat}  (h0 : EvG l t0 Γ (pH K o)) (hc : ∀ q, o = some q → Prt 99 99 q) : EvG l (tCall (sp_law_heading K) [] E0 (tCons t0 tNil)) Γ (pHX K) := e_call (fun _ _ _ pp kk => ⟨o, hc, pp, kk⟩) (a_cons h0 a_nil)
theorem sc_law_heading : FnScope ["_law_half_here", "_law_square", "_law_whole"] ["_law_half_here"] (defScope s_law_heading) := ⟨rfl, rfl, rfl, by decide +kernel, rfl, by decide +kernel, by decide +kernel⟩
theorem ok_law_heading (T : Txt K mg) : Fn P w K mg base 5 "_law_heading" ["_law_half_here"] (sp_law_heading K) := by
  refine fn_mk T 67 65 rfl rfl sc_law_heading (fun vs H Q E h => len_law_heading h) (fun _ _ _ _ _ _ us hl => match us, hl with | [_], _ => rfl) (fun f cdv A outer s H vs Q E hr h => ?_)
  obtain ⟨o, hc, hp, k⟩ := h
  refine ⟨_, (pss_cons (ps_if (pt_cmpR op_isN (pv 0) pe_non (nomark _)) (pss_one (ps_ret (pe_tup (pa_cons (pe_tup (pa_cons (pe_un un_neg pe_int) (pa_cons pe_int pa_nil))) (pa_cons (pe_tup (pa_cons pe_int (pa_cons pe_int pa_nil))) pa_nil))))) pss_nil)
      (pss_cons (ps_set (i := 1) sc_law_heading.nd rfl (Or.inl rfl) (pe_fn (ok_law_mul T) (hr.mono (by decide)) (pa_cons (pv 0) (pa_cons (pv 0) pa_nil))))
      (pss_cons (ps_set (i := 2) sc_law_heading.nd rfl (Or.inl rfl) (pe_fn (ok_law_add T) (hr.mono (by decide)) (pa_cons (pe_tup (pa_cons pe_int (pa_cons pe_int pa_nil))) (pa_cons (pv 1) pa_nil))))
      (pss_one (ps_ret (pe_tup (pa_cons (pe_fn (ok_law_div T) (hr.mono (by decide)) (pa_cons (pe_fn (ok_law_gap T) (hr.mono (by decide)) (pa_cons (pe_tup (pa_cons pe_int (pa_cons pe_int pa_nil))) (pa_cons (pv 1) pa_nil))) (pa_cons (pv 2) pa_nil))) (pa_cons (pe_fn (ok_law_div T) (hr.mono (by decide)) (pa_cons (pe_fn (ok_law_mul T) (hr.mono (by decide)) (pa_cons (pe_tup (pa_cons pe_int (pa_cons pe_int pa_nil))) (pa_cons (pv 0) pa_nil))) (pa_cons (pv 2) pa_nil))) pa_nil)))))))), ?_⟩
  refine (?_ : Run none H _ _ ([some (pH K o), none, none] : Ga)) _ H (Same.refl H) (fits0 hp trivial rfl)
  cases o with
  | none =>
    refine r_if (t_of (e_isNH (K := K) (e_var rfl))) (fun _ => r_done ((e_tup (K := K) (Ps := [pQ K 16 (-1), pQ K 16 0]) (a_cons (e_pairm (K := K)) (a_cons (e_lit (K := K) (i := 0) (x := 0) (n := 16) (by decide +kernel) (by decide) (by decide)) a_nil))).imp fun v H p => ⟨(-1, 0), unit_west, p⟩) k) fun z => by cases z
  | some q =>
    have u := head_ok (hc q rfl)
    have hw : 0 < 1 + q * q := by
      have := sq_nonneg q
      grind
    refine r_if (t_of (e_isNH (K := K) (e_var rfl))) (fun z => by cases z) fun _ => r_next0 ?_
    refine r_weak (Δ := [some (pQ K 7 q), none, none]) ⟨rfl, trivial⟩ ?_
    exact r_set (e_law_mul (e_var rfl) (e_var rfl) (by omega)) (r_set (e_law_add (e_lit (i := 1) (x := 1) (n := 1) (by decide +kernel) (by decide) (by decide)) (e_var rfl) (by omega))
      (r_done ((e_pair (K := K) (e_tup (K := K) (a_cons (e_law_div (e_law_gap (e_lit (i := 1) (x := 1) (n := 1) (by decide +kernel) (by decide) (by decide)) (e_var rfl) (by omega)) (e_var rfl) ⟨hw, by omega⟩) (a_cons (e_law_div (e_law_mul (e_lit (i := 2) (x := 2) (n := 2) (by decide +kernel) (by decide) (by decide)) (e_var rfl) (by omega)) (e_var rfl) ⟨hw, by omega⟩) a_nil))) rfl rfl u.bd.1 u.bd.2).imp fun v H p => ⟨_, u, p⟩) k))
/-! law_turn -/
def sp_law_turn (K : PySem.W.Frag) : Sp := fun vs H Q _ => ∃ (x y z t : Rat) (m n o q : Nat), ((m + o) + (n + q) + 1 ≤ 13500 ∧ (n + o) + (m + q) + 1 ≤ 13500) ∧ AllP [pT K [pQ K m x, pQ K n y], pT K [pQ K o z, pQ K q t]] vs H ∧ ∀ v H', Same H H' → (pT K [pQ K ((m + o) + (n + q) + 1) (x * z - y * t), pQ K ((n + o) + (m + q) + 1) (y * z + x * t)] : Pd) v H' → Q v H'
theorem len_law_turn {vs : List V} {H : Hp} {Q : VK} {E : XK} (h : sp_law_turn K vs H Q E) : vs.length = 2 := by
  obtain ⟨_, _, _, _, _, _, _, _, _, pp, _⟩ := h
  exact AllP.len pp
theorem e_law_turn {l : Option Addr} {Γ : Ga} {t0 t1 : TE} {x y z t : Rat} {m n o q : Nat}  (h0 : EvG l t0 Γ (pT K [pQ K m x, pQ K n y])) (h1 : EvG l t1 Γ (pT K [pQ K o z, pQ K q t])) (hc : (m + o) + (n + q) + 1 ≤ 13500 ∧ (n + o) + (m + q) + 1 ≤ 13500) : EvG l (tCall (sp_law_turn K) [] E0 (tCons t0 (tCons t1 tNil))) Γ (pT K [pQ K ((m + o) + (n + q) + 1) (x * z - y * t), pQ K ((n + o) + (m + q) + 1) (y * z + x * t)]) := e_call (fun _ _ _ pp kk => ⟨x, y, z, t, m, n, o, q, hc, pp, kk⟩) (a_cons h0 (a_cons h1 a_nil))
theorem sc_law_turn : FnScope ["_law_one", "_law_two"] ["_law_one", "_law_two"] (defScope s_law_turn) := ⟨rfl, rfl, rfl, by decide +kernel, rfl, by decide +kernel, by decide +kernel⟩
theorem ok_law_turn (T : Txt K mg) : Fn P w K mg base 5 "_law_turn" ["_law_one", "_law_two"] (sp_law_turn K) := by
  refine fn_mk T 70 68 rfl rfl sc_law_turn (fun vs H Q E h => len_law_turn h) (fun _ _ _ _ _ _ us hl => match us, hl with | [_, _], _ => rfl) (fun f cdv A outer s H vs Q E hr h => ?_)
  obtain ⟨x, y, z, t, m, n, o, q, hc, hp, k⟩ := h
  refine ⟨_, (pss_one (ps_ret (pe_tup (pa_cons (pe_fn (ok_law_gap T) (hr.mono (by decide)) (pa_cons (pe_fn (ok_law_mul T) (hr.mono (by decide)) (pa_cons (pe_ix ix_tup (pv 0) pe_int (fun _ _ => rfl)) (pa_cons (pe_ix ix_tup (pv 1) pe_int (fun _ _ => rfl)) pa_nil))) (pa_cons (pe_fn (ok_law_mul T) (hr.mono (by decide)) (pa_cons (pe_ix ix_tup (pv 0) pe_int (fun _ _ => rfl)) (pa_cons (pe_ix ix_tup (pv 1) pe_int (fun _ _ => rfl)) pa_nil))) pa_nil))) (pa_cons (pe_fn (ok_law_add T) (hr.mono (by decide)) (pa_cons (pe_fn (ok_law_mul T) (hr.mono (by decide)) (pa_cons (pe_ix ix_tup (pv 0) pe_int (fun _ _ => rfl)) (pa_cons (pe_ix ix_tup (pv 1) pe_int (fun _ _ => rfl)) pa_nil))) (pa_cons (pe_fn (ok_law_mul T) (hr.mono (by decide)) (pa_cons (pe_ix ix_tup (pv 0) pe_int (fun _ _ => rfl)) (pa_cons (pe_ix ix_tup (pv 1) pe_int (fun _ _ => rfl)) pa_nil))) pa_nil))) pa_nil))))), ?_⟩
  refine (?_ : Run none H _ _ ([some (pT K [pQ K m x, pQ K n y]), some (pT K [pQ K o z, pQ K q t])] : Ga)) _ H (Same.refl H) (fits0 hp trivial rfl)
  exact r_done (e_tup (K := K) (a_cons (e_law_gap (e_law_mul (e_at 0 (e_var rfl) rfl) (e_at 0 (e_var rfl) rfl) (by omega)) (e_law_mul (e_at 1 (e_var rfl) rfl) (e_at 1 (e_var rfl) rfl) (by omega)) (by omega)) (a_cons (e_law_add (e_law_mul (e_at 1 (e_var rfl) rfl) (e_at 0 (e_var rfl) rfl) (by omega)) (e_law_mul (e_at 0 (e_var rfl) rfl) (e_at 1 (e_var rfl) rfl) (by omega)) (by omega)) a_nil))) k
/-! law_total -/
def sp_law_total (K : PySem.W.Frag) : Sp := fun vs H Q _ => ∃ (x y z : Rat) (m n o : Nat), (m + n + o ≤ 10000) ∧ AllP [pL K [pQ K m x, pQ K n y, pQ K o z]] vs H ∧ ∀ v H', Same H H' → (pQ K (((1 + m + 1) + n + 1) + o + 1) (0 + x + y + z) : Pd) v H' → Q v H'
theorem len_law_total {vs : List V} {H : Hp} {Q : VK} {E : XK} (h : sp_law_total K vs H Q E) : vs.length = 1 := by
  obtain ⟨_, _, _, _, _, _, _, pp, _⟩ := h
  exact AllP.len pp
theorem e_law_total {Γ : Ga} {t0 : TE} {x y z : Rat} {m n o : Nat}  (h0 : EvG none t0 Γ (pL K [pQ K m x, pQ K n y, pQ K o z])) (hc : m + n + o ≤ 10000) : EvG none (tCall (sp_law_total K) [] E0 (tCons t0 tNil)) Γ (pQ K (((1 + m + 1) + n + 1) + o + 1) (0 + x + y + z)) := e_call (fun _ _ _ pp kk => ⟨x, y, z, m, n, o, hc, pp, kk⟩) (a_cons h0 a_nil)
theorem sc_law_total : FnScope ["_law_parts", "_law_found", "_law_each"] ["_law_parts"] (defScope s_law_total) := ⟨rfl, rfl, rfl, by decide +kernel, rfl, by decide +kernel, by decide +kernel⟩
theorem ok_law_total (T : Txt K mg) : Fn P w K mg base 5 "_law_total" ["_law_parts"] (sp_law_total K) := by
  refine fn_mk T 72 70 rfl rfl sc_law_total (fun vs H Q E h => len_law_total h) (fun _ _ _ _ _ _ us hl => match us, hl with | [_], _ => rfl) (fun f cdv A outer s H vs Q E hr h => ?_)
  obtain ⟨x, y, z, m, n, o, hc, hp, k⟩ := h
  refine ⟨_, (pss_cons (ps_set (i := 1) sc_law_total.nd rfl (Or.inl rfl) (pe_tup (pa_cons pe_int (pa_cons pe_int pa_nil))))
      (pss_cons (ps_for PassesOwn.never rfl (pi_list (pv 0)) (pg_name (i := 2) sc_law_total.nd rfl (by first | exact Or.inl rfl | exact Or.inr rfl)) (pss_one (ps_set (i := 1) sc_law_total.nd rfl (Or.inl rfl) (pe_fn (ok_law_add T) (hr.mono (by decide)) (pa_cons (pv 1) (pa_cons (pv 2) pa_nil))))))
      (pss_one (ps_ret (pv 1))))), ?_⟩
  refine (?_ : Run none H _ _ ([some (pL K [pQ K m x, pQ K n y, pQ K o z]), none, none] : Ga)) _ H (Same.refl H) (fits0 hp trivial rfl)
  refine r_set (e_lit (K := K) (i := 0) (x := 0) (n := 1) (by decide +kernel) (by decide) (by decide)) (r_forL3 (K := K) (Γ1 := [some (pL K [pQ K m x, pQ K n y, pQ K o z]), some (pQ K (1 + m + 1) (0 + x)), none]) (Γ2 := [some (pL K [pQ K m x, pQ K n y, pQ K o z]), some (pQ K ((1 + m + 1) + n + 1) (0 + x + y)), none]) (Γ3 := [some (pL K [pQ K m x, pQ K n y, pQ K o z]), some (pQ K (((1 + m + 1) + n + 1) + o + 1) (0 + x + y + z)), none]) (e_var rfl) (fun H1 N hN => ?_) (fun H1 N hN => ?_) (fun H1 N hN => ?_) (r_done (e_var rfl) k))
  · exact r_setN (e_law_add (e_var rfl) (e_var rfl) (by omega)) fun σ H' u f => hN σ H' u (f.weak (by exact ⟨rfl, rfl, trivial⟩))
  · exact r_setN (e_law_add (e_var rfl) (e_var rfl) (by omega)) fun σ H' u f => hN σ H' u (f.weak (by exact ⟨rfl, rfl, trivial⟩))
  · exact r_setN (e_law_add (e_var rfl) (e_var rfl) (by omega)) fun σ H' u f => hN σ H' u (f.weak (by exact ⟨rfl, rfl, trivial⟩))
/-! law_ship -/
def sp_law_ship (K : PySem.W.Frag) : Sp := fun vs H Q _ => ∃ (ga gd ge xc xs : Rat), (True) ∧ AllP [pT K [pQ K 7 ga, pQ K 1 0, pQ K 1 0, pQ K 7 gd, pQ K 7 ge], pHd K 16 xc xs] vs H ∧ ∀ v H', Same H H' → (pT K [pQ K 61 (0 + 0 + ((1 + gd) * xc) + ((ga - ge) * xs)), pQ K 61 (0 + 0 + ((ga + ge) * xc) + ((gd - 1) * xs))] : Pd) v H' → Q v H'
theorem len_law_ship {vs : List V} {H : Hp} {Q : VK} {E : XK} (h : sp_law_ship K vs H Q E) : vs.length = 2 := by
  obtain ⟨_, _, _, _, _, _, pp, _⟩ := h
  exact AllP.len pp
theorem e_law_ship {Γ : Ga} {t0 t1 : TE} {ga gd ge xc xs : Rat}  (h0 : EvG none t0 Γ (pT K [pQ K 7 ga, pQ K 1 0, pQ K 1 0, pQ K 7 gd, pQ K 7 ge])) (h1 : EvG none t1 Γ (pHd K 16 xc xs)) : EvG none (tCall (sp_law_ship K) [] E0 (tCons t0 (tCons t1 tNil))) Γ (pT K [pQ K 61 (0 + 0 + ((1 + gd) * xc) + ((ga - ge) * xs)), pQ K 61 (0 + 0 + ((ga + ge) * xc) + ((gd - 1) * xs))]) := e_call (fun _ _ _ pp kk => ⟨ga, gd, ge, xc, xs, trivial, pp, kk⟩) (a_cons h0 (a_cons h1 a_nil))
theorem sc_law_ship : FnScope ["_law_five", "_law_heading_here", "_law_a", "_law_b", "_law_c", "_law_d", "_law_e", "_law_cosine", "_law_sine", "_law_ahead", "_law_aside"] ["_law_five", "_law_heading_here"] (defScope s_law_ship) := ⟨rfl, rfl, rfl, by decide +kernel, rfl, by decide +kernel, by decide +kernel⟩
theorem ok_law_ship (T : Txt K mg) : Fn P w K mg base 6 "_law_ship" ["_law_five", "_law_heading_here"] (sp_law_ship K) := by
  refine fn_mk T 73 71 rfl rfl sc_law_ship (fun vs H Q E h => len_law_ship h) (fun _ _ _ _ _ _ us hl => match us, hl with | [_, _], _ => rfl) (fun f cdv A outer s H vs Q E hr h => ?_)
  obtain ⟨ga, gd, ge, xc, xs, hc, hp, k⟩ := h
  refine ⟨_, (pss_cons (ps_asg (pe_tup (pa_cons (pv 0) (pa_cons (pv 1) pa_nil))) (pg_tup rfl (pgs_cons (pg_tup rfl (pgs_cons (pg_name (i := 2) sc_law_ship.nd rfl (by first | exact Or.inl rfl | exact Or.inr rfl)) (pgs_cons (pg_name (i := 3) sc_law_ship.nd rfl (by first | exact Or.inl rfl | exact Or.inr rfl)) (pgs_cons (pg_name (i := 4) sc_law_ship.nd rfl (by first | exact Or.inl rfl | exact Or.inr rfl)) (pgs_cons (pg_name (i := 5) sc_law_ship.nd rfl (by first | exact Or.inl rfl | exact Or.inr rfl)) (pgs_cons (pg_name (i := 6) sc_law_ship.nd rfl (by first | exact Or.inl rfl | exact Or.inr rfl)) pgs_nil)))))) (pgs_cons (pg_tup rfl (pgs_cons (pg_name (i := 7) sc_law_ship.nd rfl (by first | exact Or.inl rfl | exact Or.inr rfl)) (pgs_cons (pg_name (i := 8) sc_law_ship.nd rfl (by first | exact Or.inl rfl | exact Or.inr rfl)) pgs_nil))) pgs_nil))))
      (pss_cons (ps_set (i := 9) sc_law_ship.nd rfl (Or.inl rfl) (pe_lst (pa_cons (pv 3) (pa_cons (pe_fn (ok_law_mul T) (hr.mono (by decide)) (pa_cons (pe_fn (ok_law_add T) (hr.mono (by decide)) (pa_cons (pe_tup (pa_cons pe_int (pa_cons pe_int pa_nil))) (pa_cons (pv 5) pa_nil))) (pa_cons (pv 7) pa_nil))) (pa_cons (pe_fn (ok_law_mul T) (hr.mono (by decide)) (pa_cons (pe_fn (ok_law_gap T) (hr.mono (by decide)) (pa_cons (pv 2) (pa_cons (pv 6) pa_nil))) (pa_cons (pv 8) pa_nil))) pa_nil)))))
      (pss_cons (ps_set (i := 10) sc_law_ship.nd rfl (Or.inl rfl) (pe_lst (pa_cons (pv 4) (pa_cons (pe_fn (ok_law_mul T) (hr.mono (by decide)) (pa_cons (pe_fn (ok_law_add T) (hr.mono (by decide)) (pa_cons (pv 2) (pa_cons (pv 6) pa_nil))) (pa_cons (pv 7) pa_nil))) (pa_cons (pe_fn (ok_law_mul T) (hr.mono (by decide)) (pa_cons (pe_fn (ok_law_gap T) (hr.mono (by decide)) (pa_cons (pv 5) (pa_cons (pe_tup (pa_cons pe_int (pa_cons pe_int pa_nil))) pa_nil))) (pa_cons (pv 8) pa_nil))) pa_nil)))))
      (pss_one (ps_ret (pe_tup (pa_cons (pe_fn (ok_law_total T) (hr.mono (by decide)) (pa_cons (pv 9) pa_nil)) (pa_cons (pe_fn (ok_law_total T) (hr.mono (by decide)) (pa_cons (pv 10) pa_nil)) pa_nil)))))))), ?_⟩
  refine (?_ : Run none H _ _ ([some (pT K [pQ K 7 ga, pQ K 1 0, pQ K 1 0, pQ K 7 gd, pQ K 7 ge]), some (pHd K 16 xc xs), none, none, none, none, none, none, none, none, none] : Ga)) _ H (Same.refl H) (fits0 hp trivial rfl)
  exact r_asg (e_tup (K := K) (a_cons (e_var rfl) (a_cons (e_var rfl) a_nil))) (g_tup rfl (gs_cons (g_tup rfl (gs_cons g_name (gs_cons g_name (gs_cons g_name (gs_cons g_name (gs_cons g_name gs_nil)))))) (gs_cons (g_tup rfl (gs_cons g_name (gs_cons g_name gs_nil))) gs_nil)))
    (r_set (e_lstL (K := K) (n_lst (a_cons (e_var rfl) (a_cons (e_law_mul (e_law_add (e_lit (i := 1) (x := 1) (n := 1) (by decide +kernel) (by decide) (by decide)) (e_var rfl) (by omega)) (e_var rfl) (by omega)) (a_cons (e_law_mul (e_law_gap (e_var rfl) (e_var rfl) (by omega)) (e_var rfl) (by omega)) a_nil)))))
    (r_set (e_lstL (K := K) (n_lst (a_cons (e_var rfl) (a_cons (e_law_mul (e_law_add (e_var rfl) (e_var rfl) (by omega)) (e_var rfl) (by omega)) (a_cons (e_law_mul (e_law_gap (e_var rfl) (e_lit (i := 1) (x := 1) (n := 1) (by decide +kernel) (by decide) (by decide)) (by omega)) (e_var rfl) (by omega)) a_nil)))))
    (r_done (e_tup (K := K) (a_cons (e_law_total (e_var rfl) (by omega)) (a_cons (e_law_total (e_var rfl) (by omega)) a_nil))) k)))
/-! law_rounds -/
def sp_law_rounds (K : PySem.W.Frag) : Sp := fun vs H Q _ => ∃ (g : Fv), (True) ∧ AllP [pFive K g] vs H ∧ ∀ v H', Same H H' → (pT K [pQ K 328 g.W, pQ K 381 g.T1, pQ K 381 g.T2] : Pd) v H' → Q v H'
theorem len_law_rounds {vs : List V} {H : Hp} {Q : VK} {E : XK} (h : sp_law_rounds K vs H Q E) : vs.length = 1 := by
  obtain ⟨_, _, pp, _⟩ := h
  exact AllP.len pp
theorem e_law_rounds {l : Option Addr} {Γ : Ga} {t0 : TE} {g : Fv}  (h0 : EvG l t0 Γ (pFive K g)) : EvG l (tCall (sp_law_rounds K) [] E0 (tCons t0 tNil)) Γ (pT K [pQ K 328 g.W, pQ K 381 g.T1, pQ K 381 g.T2]) := e_call (fun _ _ _ pp kk => ⟨g, trivial, pp, kk⟩) (a_cons h0 a_nil)
theorem sc_law_rounds : FnScope ["_law_five", "_law_a", "_law_b", "_law_c", "_law_d", "_law_e", "_law_whole", "_law_first", "_law_second"] ["_law_five"] (defScope s_law_rounds) := ⟨rfl, rfl, rfl, by decide +kernel, rfl, by decide +kernel, by decide +kernel⟩
theorem ok_law_rounds (T : Txt K mg) : Fn P w K mg base 5 "_law_rounds" ["_law_five"] (sp_law_rounds K) := by
  refine fn_mk T 75 73 rfl rfl sc_law_rounds (fun vs H Q E h => len_law_rounds h) (fun _ _ _ _ _ _ us hl => match us, hl with | [_], _ => rfl) (fun f cdv A outer s H vs Q E hr h => ?_)
  obtain ⟨g, hc, hp, k⟩ := h
  refine ⟨_, (pss_cons (ps_asg (pv 0) (pg_tup rfl (pgs_cons (pg_name (i := 1) sc_law_rounds.nd rfl (by first | exact Or.inl rfl | exact Or.inr rfl)) (pgs_cons (pg_name (i := 2) sc_law_rounds.nd rfl (by first | exact Or.inl rfl | exact Or.inr rfl)) (pgs_cons (pg_name (i := 3) sc_law_rounds.nd rfl (by first | exact Or.inl rfl | exact Or.inr rfl)) (pgs_cons (pg_name (i := 4) sc_law_rounds.nd rfl (by first | exact Or.inl rfl | exact Or.inr rfl)) (pgs_cons (pg_name (i := 5) sc_law_rounds.nd rfl (by first | exact Or.inl rfl | exact Or.inr rfl)) pgs_nil)))))))
      (pss_cons (ps_set (i := 6) sc_law_rounds.nd rfl (Or.inl rfl) (pe_fn (ok_law_gap T) (hr.mono (by decide)) (pa_cons (pe_fn (ok_law_add T) (hr.mono (by decide)) (pa_cons (pe_tup (pa_cons pe_int (pa_cons pe_int pa_nil))) (pa_cons (pe_fn (ok_law_mul T) (hr.mono (by decide)) (pa_cons (pv 1) (pa_cons (pv 1) pa_nil))) pa_nil))) (pa_cons (pe_fn (ok_law_add T) (hr.mono (by decide)) (pa_cons (pe_fn (ok_law_mul T) (hr.mono (by decide)) (pa_cons (pv 4) (pa_cons (pv 4) pa_nil))) (pa_cons (pe_fn (ok_law_mul T) (hr.mono (by decide)) (pa_cons (pv 5) (pa_cons (pv 5) pa_nil))) pa_nil))) pa_nil))))
      (pss_cons (ps_set (i := 7) sc_law_rounds.nd rfl (Or.inl rfl) (pe_fn (ok_law_gap T) (hr.mono (by decide)) (pa_cons (pe_fn (ok_law_add T) (hr.mono (by decide)) (pa_cons (pv 2) (pa_cons (pe_fn (ok_law_mul T) (hr.mono (by decide)) (pa_cons (pv 1) (pa_cons (pv 3) pa_nil))) pa_nil))) (pa_cons (pe_fn (ok_law_add T) (hr.mono (by decide)) (pa_cons (pe_fn (ok_law_mul T) (hr.mono (by decide)) (pa_cons (pv 4) (pa_cons (pv 2) pa_nil))) (pa_cons (pe_fn (ok_law_mul T) (hr.mono (by decide)) (pa_cons (pv 5) (pa_cons (pv 3) pa_nil))) pa_nil))) pa_nil))))
      (pss_cons (ps_set (i := 8) sc_law_rounds.nd rfl (Or.inl rfl) (pe_fn (ok_law_gap T) (hr.mono (by decide)) (pa_cons (pe_fn (ok_law_add T) (hr.mono (by decide)) (pa_cons (pv 3) (pa_cons (pe_fn (ok_law_mul T) (hr.mono (by decide)) (pa_cons (pv 4) (pa_cons (pv 3) pa_nil))) pa_nil))) (pa_cons (pe_fn (ok_law_add T) (hr.mono (by decide)) (pa_cons (pe_fn (ok_law_mul T) (hr.mono (by decide)) (pa_cons (pv 1) (pa_cons (pv 2) pa_nil))) (pa_cons (pe_fn (ok_law_mul T) (hr.mono (by decide)) (pa_cons (pv 5) (pa_cons (pv 2) pa_nil))) pa_nil))) pa_nil))))
      (pss_one (ps_ret (pe_tup (pa_cons (pv 6) (pa_cons (pv 7) (pa_cons (pv 8) pa_nil)))))))))), ?_⟩
  refine (?_ : Run none H _ _ ([some (pFive K g), none, none, none, none, none, none, none, none] : Ga)) _ H (Same.refl H) (fits0 hp trivial rfl)
  exact r_asg (e_var rfl) (g_tup rfl (gs_cons g_name (gs_cons g_name (gs_cons g_name (gs_cons g_name (gs_cons g_name gs_nil))))))
    (r_set (e_law_gap (e_law_add (e_lit (i := 1) (x := 1) (n := 1) (by decide +kernel) (by decide) (by decide)) (e_law_mul (e_var rfl) (e_var rfl) (by omega)) (by omega)) (e_law_add (e_law_mul (e_var rfl) (e_var rfl) (by omega)) (e_law_mul (e_var rfl) (e_var rfl) (by omega)) (by omega)) (by omega))
    (r_set (e_law_gap (e_law_add (e_var rfl) (e_law_mul (e_var rfl) (e_var rfl) (by omega)) (by omega)) (e_law_add (e_law_mul (e_var rfl) (e_var rfl) (by omega)) (e_law_mul (e_var rfl) (e_var rfl) (by omega)) (by omega)) (by omega))
    (r_set (e_law_gap (e_law_add (e_var rfl) (e_law_mul (e_var rfl) (e_var rfl) (by omega)) (by omega)) (e_law_add (e_law_mul (e_var rfl) (e_var rfl) (by omega)) (e_law_mul (e_var rfl) (e_var rfl) (by omega)) (by omega)) (by omega))
    (r_done (e_tup (K := K) (a_cons (e_var rfl) (a_cons (e_var rfl) (a_cons (e_var rfl) a_nil)))) k))))
/-! law_wheel -/
def sp_law_wheel (K : PySem.W.Frag) : Sp := fun vs H Q _ => ∃ (g : Fv), (True) ∧ AllP [pFive K g] vs H ∧ ∀ v H', Same H H' → (pWord g : Pd) v H' → Q v H'
theorem len_law_wheel {vs : List V} {H : Hp} {Q : VK} {E : XK} (h : sp_law_wheel K vs H Q E) : vs.length = 1 := by
  obtain ⟨_, _, pp, _⟩ := h
  exact AllP.len pp
theorem e_law_wheel {l : Option Addr} {Γ : Ga} {t0 : TE} {g : Fv}  (h0 : EvG l t0 Γ (pFive K g)) : EvG l (tCall (sp_law_wheel K) [] E0 (tCons t0 tNil)) Γ (pWord g) := e_call (fun _ _ _ pp kk => ⟨g, trivial, pp, kk⟩) (a_cons h0 a_nil)
theorem sc_law_wheel : FnScope ["_law_five", "_law_whole", "_law_first", "_law_second", "_law_a", "_law_b", "_law_c", "_law_size", "_law_side", "_law_far"] ["_law_five"] (defScope s_law_wheel) := ⟨rfl, rfl, rfl, by decide +kernel, rfl, by decide +kernel, by decide +kernel⟩
theorem ok_law_wheel (T : Txt K mg) : Fn P w K mg base 6 "_law_wheel" ["_law_five"] (sp_law_wheel K) := by
  refine fn_mk T 78 76 rfl rfl sc_law_wheel (fun vs H Q E h => len_law_wheel h) (fun _ _ _ _ _ _ us hl => match us, hl with | [_], _ => rfl) (fun f cdv A outer s H vs Q E hr h => ?_)
  obtain ⟨g, hc, hp, k⟩ := h
  refine ⟨_, (pss_cons (ps_asg (pe_fn (ok_law_rounds T) (hr.mono (by decide)) (pa_cons (pv 0) pa_nil)) (pg_tup rfl (pgs_cons (pg_name (i := 1) sc_law_wheel.nd rfl (by first | exact Or.inl rfl | exact Or.inr rfl)) (pgs_cons (pg_name (i := 2) sc_law_wheel.nd rfl (by first | exact Or.inl rfl | exact Or.inr rfl)) (pgs_cons (pg_name (i := 3) sc_law_wheel.nd rfl (by first | exact Or.inl rfl | exact Or.inr rfl)) pgs_nil)))))
      (pss_cons (ps_asg (pe_slice sl_tup (pv 0) po_none (po_some pe_int)) (pg_tup rfl (pgs_cons (pg_name (i := 4) sc_law_wheel.nd rfl (by first | exact Or.inl rfl | exact Or.inr rfl)) (pgs_cons (pg_name (i := 5) sc_law_wheel.nd rfl (by first | exact Or.inl rfl | exact Or.inr rfl)) (pgs_cons (pg_name (i := 6) sc_law_wheel.nd rfl (by first | exact Or.inl rfl | exact Or.inr rfl)) pgs_nil)))))
      (pss_cons (ps_set (i := 7) sc_law_wheel.nd rfl (Or.inl rfl) (pe_fn (ok_law_add T) (hr.mono (by decide)) (pa_cons (pe_fn (ok_law_mul T) (hr.mono (by decide)) (pa_cons (pv 2) (pa_cons (pv 2) pa_nil))) (pa_cons (pe_fn (ok_law_mul T) (hr.mono (by decide)) (pa_cons (pv 3) (pa_cons (pv 3) pa_nil))) pa_nil))))
      (pss_cons (ps_set (i := 8) sc_law_wheel.nd rfl (Or.inl rfl) (pe_fn (ok_law_sign T) (hr.mono (by decide)) (pa_cons (pe_ix ix_tup (pe_fn (ok_law_gap T) (hr.mono (by decide)) (pa_cons (pv 7) (pa_cons (pe_fn (ok_law_mul T) (hr.mono (by decide)) (pa_cons (pv 1) (pa_cons (pv 1) pa_nil))) pa_nil))) pe_int (fun _ _ => rfl)) pa_nil)))
      (pss_cons (ps_if (PW.pt (pw_and (pt_cmpR op_eq (pe_ix ix_tup (pv 1) pe_int (fun _ _ => rfl)) pe_int (nomark _)) (pw_and1 (pt_cmpR op_eq (pe_ix ix_tup (pv 7) pe_int (fun _ _ => rfl)) pe_int (nomark _))))) (pss_cons (ps_set (i := 9) sc_law_wheel.nd rfl (Or.inl rfl) (pe_fn (ok_law_gap T) (hr.mono (by decide)) (pa_cons (pe_fn (ok_law_add T) (hr.mono (by decide)) (pa_cons (pe_fn (ok_law_mul T) (hr.mono (by decide)) (pa_cons (pv 5) (pa_cons (pv 5) pa_nil))) (pa_cons (pe_fn (ok_law_mul T) (hr.mono (by decide)) (pa_cons (pv 6) (pa_cons (pv 6) pa_nil))) pa_nil))) (pa_cons (pe_fn (ok_law_mul T) (hr.mono (by decide)) (pa_cons (pe_tup (pa_cons pe_int (pa_cons pe_int pa_nil))) (pa_cons (pe_fn (ok_law_add T) (hr.mono (by decide)) (pa_cons (pe_tup (pa_cons pe_int (pa_cons pe_int pa_nil))) (pa_cons (pe_fn (ok_law_mul T) (hr.mono (by decide)) (pa_cons (pv 4) (pa_cons (pv 4) pa_nil))) pa_nil))) pa_nil))) pa_nil))))
      (pss_one (ps_ret (pe_ifExp (pt_cmpR op_gt (pe_ix ix_tup (pv 9) pe_int (fun _ _ => rfl)) pe_int (nomark _)) pe_str pe_str)))) pss_nil)
      (pss_cons (ps_if (pt_cmpR op_lt (pv 8) pe_int (nomark _)) (pss_one (ps_ret (pe_ifExp (pt_cmpR op_gt (pe_ix ix_tup (pv 1) pe_int (fun _ _ => rfl)) pe_int (nomark _)) pe_str pe_str))) pss_nil)
      (pss_one (ps_ret (pe_ifExp (pt_cmpR op_gt (pv 8) pe_int (nomark _)) pe_str pe_str))))))))), ?_⟩
  refine (?_ : Run none H _ _ ([some (pFive K g), none, none, none, none, none, none, none, none, none] : Ga)) _ H (Same.refl H) (fits0 hp trivial rfl)
  refine r_asg (e_law_rounds (e_var rfl)) (g_tup rfl (gs_cons g_name (gs_cons g_name (gs_cons g_name gs_nil)))) (r_asg (e_sl3 (e_var rfl)) (g_tup rfl (gs_cons g_name (gs_cons g_name (gs_cons g_name gs_nil))))
    (r_set (q_is (y := g.N) (e_law_add (e_law_mul (e_var rfl) (e_var rfl) (by omega)) (e_law_mul (e_var rfl) (e_var rfl) (by omega)) (by omega)) rfl)
    (r_set (e_law_sign (e_num (e_law_gap (e_var rfl) (e_law_mul (e_var rfl) (e_var rfl) (by omega)) (by omega))))
    (r_if (t_and (t_of (e_eq rfl (e_num (e_var rfl)) e_c)) fun _ => t_of (e_eq rfl (e_num (e_var rfl)) e_c)) (fun hb => ?_) fun hb => r_next0 (r_if (t_of (e_I0 (e_var rfl) e_c)) (fun hb => ?_) fun hb => r_next0 ?_)))))
  · rw [Bool.and_eq_true] at hb
    have h1 := of_decide_eq_true hb.1
    have h2 := of_decide_eq_true hb.2
    have h1 : g.W = 0 := num_zero.mp (by injection h1)
    have h2 : g.N = 0 := num_zero.mp (by injection h2)
    have nn : ¬ g.N < g.W * g.W := by
      rw [h1, h2]
      decide +kernel
    refine r_set (e_law_gap (e_law_add (e_law_mul (e_var rfl) (e_var rfl) (by omega)) (e_law_mul (e_var rfl) (e_var rfl) (by omega)) (by omega)) (e_law_mul (e_lit (i := 4) (x := 4) (n := 3) (by decide +kernel) (by decide) (by decide)) (e_law_add (e_lit (i := 1) (x := 1) (n := 1) (by decide +kernel) (by decide) (by decide)) (e_law_mul (e_var rfl) (e_var rfl) (by omega)) (by omega)) (by omega)) (by omega))
      (r_done (e_if (t_of (e_I0 (e_num (e_var rfl)) e_c)) (fun _ => e_word e_c ?_) (fun _ => e_word e_c ?_)) k)
    · rw [decide_eq_false nn]
      decide +kernel
    · rw [decide_eq_false nn]
      decide +kernel
  · have h : sg (g.N - g.W * g.W) < 0 := of_decide_eq_true hb
    have hn : g.N < g.W * g.W := by
      rcases sg_tri (g.N - g.W * g.W) with ⟨a, b⟩ | ⟨a, b⟩ | ⟨a, b⟩
      · omega
      · omega
      · grind
    refine r_done (e_if (t_of (e_I0 (e_num (e_var rfl)) e_c)) (fun _ => e_word e_c ?_) (fun _ => e_word e_c ?_)) k
    · rw [decide_eq_true hn]
      decide +kernel
    · rw [decide_eq_true hn]
      decide +kernel
  · have h : ¬ sg (g.N - g.W * g.W) < 0 := of_decide_eq_false hb
    have hn : ¬ g.N < g.W * g.W := by
      rcases sg_tri (g.N - g.W * g.W) with ⟨a, b⟩ | ⟨a, b⟩ | ⟨a, b⟩
      · grind
      · grind
      · omega
    refine r_done (e_if (t_of (e_I0 (e_var rfl) e_c)) (fun _ => e_word e_c ?_) (fun _ => e_word e_c ?_)) k
    · rw [decide_eq_false hn]
      decide +kernel
    · rw [decide_eq_false hn]
      decide +kernel
/-! law_ship_rows -/
def sp_law_ship_rows (K : PySem.W.Frag) : Sp := fun vs H Q _ => ∃ (g : Fv), (True) ∧ AllP [pFive K g] vs H ∧ ∀ v H', Same H H' → (pL K [pL K [pQ K 54 g.b, pQ K 56 (1 + g.d), pQ K 109 (g.a - g.e)], pL K [pQ K 54 g.c, pQ K 109 (g.a + g.e), pQ K 56 (g.d - 1)]] : Pd) v H' → Q v H'
theorem len_law_ship_rows {vs : List V} {H : Hp} {Q : VK} {E : XK} (h : sp_law_ship_rows K vs H Q E) : vs.length = 1 := by
  obtain ⟨_, _, pp, _⟩ := h
  exact AllP.len pp
theorem e_law_ship_rows {Γ : Ga} {t0 : TE} {g : Fv}  (h0 : EvG none t0 Γ (pFive K g)) : EvG none (tCall (sp_law_ship_rows K) [] E0 (tCons t0 tNil)) Γ (pL K [pL K [pQ K 54 g.b, pQ K 56 (1 + g.d), pQ K 109 (g.a - g.e)], pL K [pQ K 54 g.c, pQ K 109 (g.a + g.e), pQ K 56 (g.d - 1)]]) := e_call (fun _ _ _ pp kk => ⟨g, trivial, pp, kk⟩) (a_cons h0 a_nil)
theorem sc_law_ship_rows : FnScope ["_law_five", "_law_a", "_law_b", "_law_c", "_law_d", "_law_e"] ["_law_five"] (defScope s_law_ship_rows) := ⟨rfl, rfl, rfl, by decide +kernel, rfl, by decide +kernel, by decide +kernel⟩
theorem ok_law_ship_rows (T : Txt K mg) : Fn P w K mg base 5 "_law_ship_rows" ["_law_five"] (sp_law_ship_rows K) := by
  refine fn_mk T 82 80 rfl rfl sc_law_ship_rows (fun vs H Q E h => len_law_ship_rows h) (fun _ _ _ _ _ _ us hl => match us, hl with | [_], _ => rfl) (fun f cdv A outer s H vs Q E hr h => ?_)
  obtain ⟨g, hc, hp, k⟩ := h
  refine ⟨_, (pss_cons (ps_asg (pv 0) (pg_tup rfl (pgs_cons (pg_name (i := 1) sc_law_ship_rows.nd rfl (by first | exact Or.inl rfl | exact Or.inr rfl)) (pgs_cons (pg_name (i := 2) sc_law_ship_rows.nd rfl (by first | exact Or.inl rfl | exact Or.inr rfl)) (pgs_cons (pg_name (i := 3) sc_law_ship_rows.nd rfl (by first | exact Or.inl rfl | exact Or.inr rfl)) (pgs_cons (pg_name (i := 4) sc_law_ship_rows.nd rfl (by first | exact Or.inl rfl | exact Or.inr rfl)) (pgs_cons (pg_name (i := 5) sc_law_ship_rows.nd rfl (by first | exact Or.inl rfl | exact Or.inr rfl)) pgs_nil)))))))
      (pss_one (ps_ret (pe_lst (pa_cons (pe_lst (pa_cons (pv 2) (pa_cons (pe_fn (ok_law_add T) (hr.mono (by decide)) (pa_cons (pe_tup (pa_cons pe_int (pa_cons pe_int pa_nil))) (pa_cons (pv 4) pa_nil))) (pa_cons (pe_fn (ok_law_gap T) (hr.mono (by decide)) (pa_cons (pv 1) (pa_cons (pv 5) pa_nil))) pa_nil)))) (pa_cons (pe_lst (pa_cons (pv 3) (pa_cons (pe_fn (ok_law_add T) (hr.mono (by decide)) (pa_cons (pv 1) (pa_cons (pv 5) pa_nil))) (pa_cons (pe_fn (ok_law_gap T) (hr.mono (by decide)) (pa_cons (pv 4) (pa_cons (pe_tup (pa_cons pe_int (pa_cons pe_int pa_nil))) pa_nil))) pa_nil)))) pa_nil)))))), ?_⟩
  refine (?_ : Run none H _ _ ([some (pFive K g), none, none, none, none, none] : Ga)) _ H (Same.refl H) (fits0 hp trivial rfl)
  exact r_asg (e_var rfl) (g_tup rfl (gs_cons g_name (gs_cons g_name (gs_cons g_name (gs_cons g_name (gs_cons g_name gs_nil))))))
    (r_done (e_lstL (K := K) (n_lst (a_cons (e_lstL (K := K) (n_lst (a_cons (e_var rfl) (a_cons (e_law_add (e_lit (i := 1) (x := 1) (n := 1) (by decide +kernel) (by decide) (by decide)) (e_var rfl) (by omega)) (a_cons (e_law_gap (e_var rfl) (e_var rfl) (by omega)) a_nil))))) (a_cons (e_lstL (K := K) (n_lst (a_cons (e_var rfl) (a_cons (e_law_add (e_var rfl) (e_var rfl) (by omega)) (a_cons (e_law_gap (e_var rfl) (e_lit (i := 1) (x := 1) (n := 1) (by decide +kernel) (by decide) (by decide)) (by omega)) a_nil))))) a_nil)))) k)
end
end K30

/-! text: KLaw3 -/
set_option Elab.async false
set_option linter.all false
set_option maxRecDepth 100000
set_option maxHeartbeats 4000000
namespace K30
open PySem PySem.Spec PyProof.Rows L2 K30M
section
variable {P : Program} {w : World} {K : PySem.W.Frag} {mg : Str → Option Value} {base : Heap}
/-- a whole number not above 0 -/
abbrev pNeg : Pd := pX (fun r : Int => r ≤ 0) fun r => pV (.int r)
theorem e_le0 {l : Option Addr} {Γ : Ga} {te : TE} {r : Int} (h : EvG l te Γ (pV (.int r))) (e : r ≤ 0) : EvG l te Γ pNeg := h.imp fun v H p => ⟨r, e, p⟩
theorem t_neg {l : Option Addr} {Γ : Ga} {te : TE} (h : EvG l te Γ pNeg) : EvT l (tTest (tOp (rI0 fun i j => .bl (decide (j < i))) te (tC (.int 0)))) Γ false :=
  t_of (e_op (P := pNeg) (P' := pV (.int 0)) (fun x y H Q hx hy k => by
    obtain ⟨r, hr, e⟩ := hx
    refine ⟨r, 0, e, hy, k _ H (Same.refl H) ?_⟩
    show V.bl _ = V.bl _
    rw [decide_eq_false (by omega)]) h e_c)
theorem l3_bd {Γ : Ga} {te : TE} {x y z x' y' z' : Rat} {m n o m' n' o' : Nat} (h : EvG none te Γ (pL K [pQ K m x, pQ K n y, pQ K o z])) (e1 : x = x') (e2 : y = y') (e3 : z = z') (b1 : Bd m' x') (b2 : Bd n' y') (b3 : Bd o' z') : EvG none te Γ (pL K [pQ K m' x', pQ K n' y', pQ K o' z']) := by
  subst e1 e2 e3
  exact h.imp fun v H ⟨a, vs, e, s, p⟩ => by
    obtain ⟨u, w, t, rfl, p1, p2, p3⟩ := AllP.three p
    exact ⟨a, _, e, s, ⟨b1, p1.2⟩, ⟨b2, p2.2⟩, ⟨b3, p3.2⟩, trivial⟩
theorem pm_nd {w : Int} (h : w = 1 ∨ w = -1) (x : Rat) : ((w : Rat) * x).num = w * x.num ∧ ((w : Rat) * x).den = x.den := by
  rcases h with rfl | rfl
  · rw [c1, Rat.one_mul]
    exact ⟨by omega, rfl⟩
  · rw [cm1, show -1 * x = -x by grind, Rat.neg_num, Rat.neg_den]
    exact ⟨by omega, rfl⟩
abbrev pLs (K : PySem.W.Frag) (k1 l1 m1 : Rat) (w : Int) : Pd := pT K [pQ K 710 (-(k1 * (1 / (l1 * l1 + m1 * m1))) * l1), pQ K 592 (-(((w : Rat) * (1 / (l1 * l1 + m1 * m1))) * m1)), pQ K 710 (-(k1 * (1 / (l1 * l1 + m1 * m1))) * m1), pQ K 592 (((w : Rat) * (1 / (l1 * l1 + m1 * m1))) * l1), pQ K 710 ((l1 * l1 + m1 * m1) - k1 * k1)]
theorem spot_low {lk ll lm sk sl sm : Rat} {w : Int} (h : Hid lk ll lm sk sl sm) (hw : w = 1 ∨ w = -1) (z0 : 0 ≤ (ll * ll + lm * lm) - lk * lk) :
    ∃ t, Low (sk + (sl * (-(lk * (1 / (ll * ll + lm * lm))) * ll) + sm * (-(lk * (1 / (ll * ll + lm * lm))) * lm))) (sl * (-(((w : Rat) * (1 / (ll * ll + lm * lm))) * lm)) + sm * (((w : Rat) * (1 / (ll * ll + lm * lm))) * ll)) ((ll * ll + lm * lm) - lk * lk) t := by
  have hw' : -(w : Rat) = 1 ∨ -(w : Rat) = -1 := by
    rcases hw with rfl | rfl
    · exact .inr (by rw [c1])
    · exact .inl (by rw [cm1]; grind)
  obtain ⟨t, lo⟩ := pt_low h hw' z0
  refine ⟨t, ?_⟩
  have e1 : sk + (sl * (-(lk * (1 / (ll * ll + lm * lm))) * ll) + sm * (-(lk * (1 / (ll * ll + lm * lm))) * lm)) = sk + (sl * -((ll * lk) / (ll * ll + lm * lm)) + sm * -((lm * lk) / (ll * ll + lm * lm))) := by
    generalize ll * ll + lm * lm = n
    grind
  have e2 : sl * (-(((w : Rat) * (1 / (ll * ll + lm * lm))) * lm)) + sm * (((w : Rat) * (1 / (ll * ll + lm * lm))) * ll) = sl * ((-(w : Rat) * lm) / (ll * ll + lm * lm)) + sm * ((-(-(w : Rat)) * ll) / (ll * ll + lm * lm)) := by
    generalize ll * ll + lm * lm = n
    grind
  rw [e1, e2]
  exact lo
/-! law_sign_of -/
def sp_law_sign_of (K : PySem.W.Frag) : Sp := fun vs H Q _ => ∃ (x y z t : Rat) (m n o : Nat), (Low x y z t ∧ m ≤ 2000 ∧ n ≤ 2000 ∧ o ≤ 1000) ∧ AllP [pQ K m x, pQ K n y, pQ K o z] vs H ∧ ∀ v H', Same H H' → (pNeg : Pd) v H' → Q v H'
theorem len_law_sign_of {vs : List V} {H : Hp} {Q : VK} {E : XK} (h : sp_law_sign_of K vs H Q E) : vs.length = 3 := by
  obtain ⟨_, _, _, _, _, _, _, _, pp, _⟩ := h
  exact AllP.len pp
theorem e_law_sign_of {l : Option Addr} {Γ : Ga} {t0 t1 t2 : TE} {x y z t : Rat} {m n o : Nat}  (h0 : EvG l t0 Γ (pQ K m x)) (h1 : EvG l t1 Γ (pQ K n y)) (h2 : EvG l t2 Γ (pQ K o z)) (hc : Low x y z t ∧ m ≤ 2000 ∧ n ≤ 2000 ∧ o ≤ 1000) : EvG l (tCall (sp_law_sign_of K) [] E0 (tCons t0 (tCons t1 (tCons t2 tNil)))) Γ (pNeg) := e_call (fun _ _ _ pp kk => ⟨x, y, z, t, m, n, o, hc, pp, kk⟩) (a_cons h0 (a_cons h1 (a_cons h2 a_nil)))
theorem sc_law_sign_of : FnScope ["_law_one", "_law_two", "_law_square", "_law_a", "_law_b", "_law_gap_here"] ["_law_one", "_law_two", "_law_square"] (defScope s_law_sign_of) := ⟨rfl, rfl, rfl, by decide +kernel, rfl, by decide +kernel, by decide +kernel⟩
theorem ok_law_sign_of (T : Txt K mg) : Fn P w K mg base 5 "_law_sign_of" ["_law_one", "_law_two", "_law_square"] (sp_law_sign_of K) := by
  refine fn_mk T 66 64 rfl rfl sc_law_sign_of (fun vs H Q E h => len_law_sign_of h) (fun _ _ _ _ _ _ us hl => match us, hl with | [_, _, _], _ => rfl) (fun f cdv A outer s H vs Q E hr h => ?_)
  obtain ⟨x, y, z, t, m, n, o, hc, hp, k⟩ := h
  obtain ⟨lo, l1, l2, l3⟩ := hc
  refine ⟨_, (pss_cons (ps_par (i := 3) (j := 4) rfl sc_law_sign_of.nd rfl rfl (by decide) rfl rfl (pa_cons (pe_fn (ok_law_sign T) (hr.mono (by decide)) (pa_cons (pe_ix ix_tup (pv 0) pe_int (fun _ _ => rfl)) pa_nil)) (pa_cons (pe_ifExp (pt_cmpR op_gt (pe_ix ix_tup (pv 2) pe_int (fun _ _ => rfl)) pe_int (nomark _)) (pe_fn (ok_law_sign T) (hr.mono (by decide)) (pa_cons (pe_ix ix_tup (pv 1) pe_int (fun _ _ => rfl)) pa_nil)) pe_int) pa_nil)) (by rfl))
      (pss_cons (ps_if (PW.pt (pw_or (pt_cmpR op_eq (pv 4) pe_int (nomark _)) (pw_or1 (pt_cmpR op_eq (pv 3) (pv 4) (nomark _))))) (pss_one (ps_ret (pe_ifExp (pt_cmpR op_eq (pv 4) pe_int (nomark _)) (pv 3) (pv 4)))) pss_nil)
      (pss_cons (ps_if (pt_cmpR op_eq (pv 3) pe_int (nomark _)) (pss_one (ps_ret (pv 4))) pss_nil)
      (pss_cons (ps_set (i := 5) sc_law_sign_of.nd rfl (Or.inl rfl) (pe_fn (ok_law_gap T) (hr.mono (by decide)) (pa_cons (pe_fn (ok_law_mul T) (hr.mono (by decide)) (pa_cons (pv 0) (pa_cons (pv 0) pa_nil))) (pa_cons (pe_fn (ok_law_mul T) (hr.mono (by decide)) (pa_cons (pe_fn (ok_law_mul T) (hr.mono (by decide)) (pa_cons (pv 1) (pa_cons (pv 1) pa_nil))) (pa_cons (pv 2) pa_nil))) pa_nil))))
      (pss_one (ps_ret (pe_op op_mulX (pe_fn (ok_law_sign T) (hr.mono (by decide)) (pa_cons (pe_ix ix_tup (pv 5) pe_int (fun _ _ => rfl)) pa_nil)) (pv 3)))))))), ?_⟩
  refine (?_ : Run none H _ _ ([some (pQ K m x), some (pQ K n y), some (pQ K o z), none, none, none] : Ga)) _ H (Same.refl H) (fits0 hp trivial rfl)
  refine r_par (a_cons (P := pV (.int (sg x))) (e_law_sign (K := K) (e_num (e_var rfl))) (a_cons (P := pV (.int (sgb y z))) (e_if (t_of (e_I0 (e_num (e_var rfl)) e_c)) (fun hb => e_int (e_law_sign (K := K) (e_num (e_var rfl))) ?_) (fun hb => e_int e_c ?_)) a_nil)) ?_
  · have h := of_decide_eq_true hb
    unfold sgb
    rw [if_pos h]
    rfl
  · have h := of_decide_eq_false hb
    unfold sgb
    rw [if_neg h]
  · refine r_if (t_or (t_of (e_eq rfl (e_var rfl) e_c)) fun _ => t_of (e_eq rfl (e_var rfl) (e_var rfl))) (fun hb => ?_) fun hb => r_next0 ?_
    · refine r_done (e_if (t_of (e_eq rfl (e_var rfl) e_c)) (fun h0 => e_le0 (e_var rfl) ?_) (fun h0 => e_le0 (e_var rfl) ?_)) k
      · have h := of_decide_eq_true h0
        exact so0 lo (by injection h)
      · have h := of_decide_eq_false h0
        rw [h0, Bool.false_or] at hb
        have h2 := of_decide_eq_true hb
        exact so1 lo (.inl (by injection h2 with h2; exact h2.symm))
    · rw [Bool.or_eq_false_iff] at hb
      have n1 := of_decide_eq_false hb.1
      have n2 := of_decide_eq_false hb.2
      have n1 : sgb y z ≠ 0 := fun e => n1 (by rw [e])
      have n2 : sg x ≠ sgb y z := fun e => n2 (by rw [e])
      refine r_if (t_of (e_eq rfl (e_var rfl) e_c)) (fun h0 => r_done (e_le0 (e_var rfl) (so1 lo (.inr ?_))) k) fun h0 => r_next0 ?_
      · have h := of_decide_eq_true h0
        injection h
      · have h := of_decide_eq_false h0
        have n3 : sg x ≠ 0 := fun e => h (by rw [e])
        exact r_set (e_law_gap (e_law_mul (e_var rfl) (e_var rfl) (by omega)) (e_law_mul (e_law_mul (e_var rfl) (e_var rfl) (by omega)) (e_var rfl) (by omega)) (by omega))
          (r_done (e_le0 (e_mul (m := sg (x * x - y * y * z)) (n := sg x) (a := 1) (c := 1) (sg_abs _) (sg_abs _) (by omega) (e_law_sign (K := K) (e_num (e_var rfl))) (e_var rfl)) (so2 lo n1 n2 n3)) k)
/-! law_line_spots -/
def sp_law_line_spots (K : PySem.W.Frag) : Sp := fun vs H Q _ => ∃ (k1 l1 m1 : Rat), (¬ (l1 = 0 ∧ m1 = 0)) ∧ AllP [pQ K 118 k1, pQ K 118 l1, pQ K 118 m1] vs H ∧ ∀ v H', Same H H' → (pX (Spots k1 l1 m1) fun ws => pL K (ws.map (pLs K k1 l1 m1)) : Pd) v H' → Q v H'
theorem len_law_line_spots {vs : List V} {H : Hp} {Q : VK} {E : XK} (h : sp_law_line_spots K vs H Q E) : vs.length = 3 := by
  obtain ⟨_, _, _, _, pp, _⟩ := h
  exact AllP.len pp
theorem e_law_line_spots {Γ : Ga} {t0 t1 t2 : TE} {k1 l1 m1 : Rat}  (h0 : EvG none t0 Γ (pQ K 118 k1)) (h1 : EvG none t1 Γ (pQ K 118 l1)) (h2 : EvG none t2 Γ (pQ K 118 m1)) (hc : ¬ (l1 = 0 ∧ m1 = 0)) : EvG none (tCall (sp_law_line_spots K) [] E0 (tCons t0 (tCons t1 (tCons t2 tNil)))) Γ (pX (Spots k1 l1 m1) fun ws => pL K (ws.map (pLs K k1 l1 m1))) := e_call (fun _ _ _ pp kk => ⟨k1, l1, m1, hc, pp, kk⟩) (a_cons h0 (a_cons h1 (a_cons h2 a_nil)))
theorem sc_law_line_spots : FnScope ["_law_fixed", "_law_along", "_law_across", "_law_size", "_law_square", "_law_step", "_law_mid", "_law_found", "_law_way", "_law_turn_here"] ["_law_fixed", "_law_along", "_law_across"] (defScope s_law_line_spots) := ⟨rfl, rfl, rfl, by decide +kernel, rfl, by decide +kernel, by decide +kernel⟩
theorem ok_law_line_spots (T : Txt K mg) : Fn P w K mg base 5 "_law_line_spots" ["_law_fixed", "_law_along", "_law_across"] (sp_law_line_spots K) := by
  refine fn_mk T 79 77 rfl rfl sc_law_line_spots (fun vs H Q E h => len_law_line_spots h) (fun _ _ _ _ _ _ us hl => match us, hl with | [_, _, _], _ => rfl) (fun f cdv A outer s H vs Q E hr h => ?_)
  obtain ⟨k1, l1, m1, hc, hp, k⟩ := h
  have n0 : 0 < l1 * l1 + m1 * m1 := by
    have h1 := sq_nonneg l1
    have h2 := sq_nonneg m1
    have h3 : l1 * l1 + m1 * m1 ≠ 0 := fun z => hc (two_sq z)
    grind
  refine ⟨_, (pss_cons (ps_set (i := 3) sc_law_line_spots.nd rfl (Or.inl rfl) (pe_fn (ok_law_add T) (hr.mono (by decide)) (pa_cons (pe_fn (ok_law_mul T) (hr.mono (by decide)) (pa_cons (pv 1) (pa_cons (pv 1) pa_nil))) (pa_cons (pe_fn (ok_law_mul T) (hr.mono (by decide)) (pa_cons (pv 2) (pa_cons (pv 2) pa_nil))) pa_nil))))
      (pss_cons (ps_set (i := 4) sc_law_line_spots.nd rfl (Or.inl rfl) (pe_fn (ok_law_gap T) (hr.mono (by decide)) (pa_cons (pv 3) (pa_cons (pe_fn (ok_law_mul T) (hr.mono (by decide)) (pa_cons (pv 0) (pa_cons (pv 0) pa_nil))) pa_nil))))
      (pss_cons (ps_if (pt_cmpR op_lt (pe_ix ix_tup (pv 4) pe_int (fun _ _ => rfl)) pe_int (nomark _)) (pss_one (ps_ret (pe_lst pa_nil))) pss_nil)
      (pss_cons (ps_set (i := 5) sc_law_line_spots.nd rfl (Or.inl rfl) (pe_fn (ok_law_div T) (hr.mono (by decide)) (pa_cons (pe_tup (pa_cons pe_int (pa_cons pe_int pa_nil))) (pa_cons (pv 3) pa_nil))))
      (pss_cons (ps_set (i := 6) sc_law_line_spots.nd rfl (Or.inl rfl) (pe_fn (ok_law_back T) (hr.mono (by decide)) (pa_cons (pe_fn (ok_law_mul T) (hr.mono (by decide)) (pa_cons (pv 0) (pa_cons (pv 5) pa_nil))) pa_nil)))
      (pss_cons (ps_set (i := 7) sc_law_line_spots.nd rfl (Or.inl rfl) (pe_lst pa_nil))
      (pss_cons (ps_for PassesOwn.never rfl (pi_list (pe_ifExp (pt_cmpR op_gt (pe_ix ix_tup (pv 4) pe_int (fun _ _ => rfl)) pe_int (nomark _)) (pe_lst (pa_cons pe_int (pa_cons (pe_un un_neg pe_int) pa_nil))) (pe_lst (pa_cons pe_int pa_nil)))) (pg_name (i := 8) sc_law_line_spots.nd rfl (by first | exact Or.inl rfl | exact Or.inr rfl)) (pss_cons (ps_set (i := 9) sc_law_line_spots.nd rfl (Or.inl rfl) (pe_tup (pa_cons (pe_op op_mulX (pv 8) (pe_ix ix_tup (pv 5) pe_int (fun _ _ => rfl))) (pa_cons (pe_ix ix_tup (pv 5) pe_int (fun _ _ => rfl)) pa_nil))))
      (pss_one (ps_expr (pe_bm PySem.F.plainAttrs_list PySem.F.slot_list_append PySem.F.type_list_append mt_append (pv 7) (pa_cons (pe_tup (pa_cons (pe_fn (ok_law_mul T) (hr.mono (by decide)) (pa_cons (pv 6) (pa_cons (pv 1) pa_nil))) (pa_cons (pe_fn (ok_law_back T) (hr.mono (by decide)) (pa_cons (pe_fn (ok_law_mul T) (hr.mono (by decide)) (pa_cons (pv 9) (pa_cons (pv 2) pa_nil))) pa_nil)) (pa_cons (pe_fn (ok_law_mul T) (hr.mono (by decide)) (pa_cons (pv 6) (pa_cons (pv 2) pa_nil))) (pa_cons (pe_fn (ok_law_mul T) (hr.mono (by decide)) (pa_cons (pv 9) (pa_cons (pv 1) pa_nil))) (pa_cons (pv 4) pa_nil)))))) pa_nil))))))
      (pss_one (ps_ret (pv 7)))))))))), ?_⟩
  refine (?_ : Run none H _ _ ([some (pQ K 118 k1), some (pQ K 118 l1), some (pQ K 118 m1), none, none, none, none, none, none, none] : Ga)) _ H (Same.refl H) (fits0 hp trivial rfl)
  refine r_set (e_law_add (e_law_mul (e_var rfl) (e_var rfl) (by omega)) (e_law_mul (e_var rfl) (e_var rfl) (by omega)) (by omega)) (r_set (e_law_gap (e_var rfl) (e_law_mul (e_var rfl) (e_var rfl) (by omega)) (by omega))
    (r_if (t_of (e_I0 (e_num (e_var rfl)) e_c)) (fun hb => r_done ((e_lstL (K := K) (n_lst a_nil)).imp fun v H p => ⟨[], ⟨fun _ h => by simp at h, .inl rfl⟩, p⟩) k) fun hb => r_next0 ?_))
  have z0 : 0 ≤ (l1 * l1 + m1 * m1) - k1 * k1 := by
    have h1 := of_decide_eq_false hb
    have := fun z => h1 (num_neg.mpr z)
    grind
  refine r_set (e_law_div (e_lit (i := 1) (x := 1) (n := 1) (by decide +kernel) (by decide) (by decide)) (e_var rfl) ⟨n0, by omega⟩) (r_set (e_law_back (e_law_mul (e_var rfl) (e_var rfl) (by omega))) ?_)
  refine r_weak (Δ := [some (pQ K 118 k1), some (pQ K 118 l1), some (pQ K 118 m1), some (pQ K 473 (l1 * l1 + m1 * m1)), some (pQ K 710 ((l1 * l1 + m1 * m1) - k1 * k1)), some (pQ K 474 (1 / (l1 * l1 + m1 * m1))), some (pQ K 592 (-(k1 * (1 / (l1 * l1 + m1 * m1))))), none, none, none]) (by repeat first | exact trivial | refine ⟨rfl, ?_⟩) ?_
  refine r_getQ (i := 5) rfl fun bs => ?_
  refine r_accL (K := K) (Ps := (wsOf (decide (0 < ((l1 * l1 + m1 * m1) - k1 * k1).num))).map fun w => pV (.int w)) (Rs := (wsOf (decide (0 < ((l1 * l1 + m1 * m1) - k1 * k1).num))).map (pLs K k1 l1 m1)) inferInstance
    (fun p => n_if (t_of (e_I0 (e_num (e_var rfl)) e_c)) (fun hb => ?_) fun hb => ?_) (by simp) (by simp [wsOf]; split <;> simp) (fun kk P R hP hR => ?_) (r_done ((e_var rfl).imp fun v H p => ⟨_, ⟨wsOf_pm, .inr z0⟩, pLg_L p⟩) k)
  · rw [hb]
    exact n_lst (a_cons e_c (a_cons (e_neg e_c) a_nil))
  · rw [hb]
    exact n_lst (a_cons e_c a_nil)
  · obtain ⟨w, hw, rfl, rfl⟩ := map2 hP hR
    have hw1 : w.natAbs < 2 ^ 1 := by rcases wsOf_pm w hw with rfl | rfl <;> decide
    obtain ⟨n1, n2⟩ := pm_nd (wsOf_pm w hw) (1 / (l1 * l1 + m1 * m1))
    have bw : Bd 474 ((w : Rat) * (1 / (l1 * l1 + m1 * m1))) := ⟨by
      rw [n1, Int.natAbs_mul]
      have : w.natAbs = 1 := by rcases wsOf_pm w hw with rfl | rfl <;> decide
      rw [this, Nat.one_mul]
      exact bs.1, by rw [n2]; exact bs.2⟩
    refine turnA1 fun p acc H D' np ea small q => r_set (f_q (q := (w : Rat) * (1 / (l1 * l1 + m1 * m1))) (e_to (e_tup (K := K) (a_cons (e_mul (a := 1) (c := 474) hw1 bs.1 (by omega) (e_var rfl) (e_num (e_var rfl))) (a_cons (e_den (e_var rfl)) a_nil))) ?_) bw)
      (r_app (j := 7) rfl np ea small (by repeat first | exact trivial | refine ⟨rfl, ?_⟩) (e_tup (K := K) (a_cons (e_law_mul (e_var rfl) (e_var rfl) (by omega)) (a_cons (e_law_back (e_law_mul (e_var rfl) (e_var rfl) (by omega))) (a_cons (e_law_mul (e_var rfl) (e_var rfl) (by omega)) (a_cons (e_law_mul (e_var rfl) (e_var rfl) (by omega)) (a_cons (e_var rfl) a_nil)))))) q)
    unfold pF
    rw [n1, n2]
    rfl
/-! law_spot_sign -/
def sp_law_spot_sign (K : PySem.W.Frag) : Sp := fun vs H Q _ => ∃ (rk rl rm c0 c1 s0 s1 z t : Rat), (Low (rk + (rl * c0 + rm * s0)) (rl * c1 + rm * s1) z t) ∧ AllP [pQ K 118 rk, pQ K 118 rl, pQ K 118 rm, pT K [pQ K 710 c0, pQ K 592 c1, pQ K 710 s0, pQ K 592 s1, pQ K 710 z]] vs H ∧ ∀ v H', Same H H' → (pNeg : Pd) v H' → Q v H'
theorem len_law_spot_sign {vs : List V} {H : Hp} {Q : VK} {E : XK} (h : sp_law_spot_sign K vs H Q E) : vs.length = 4 := by
  obtain ⟨_, _, _, _, _, _, _, _, _, _, pp, _⟩ := h
  exact AllP.len pp
theorem e_law_spot_sign {l : Option Addr} {Γ : Ga} {t0 t1 t2 t3 : TE} {rk rl rm c0 c1 s0 s1 z t : Rat}  (h0 : EvG l t0 Γ (pQ K 118 rk)) (h1 : EvG l t1 Γ (pQ K 118 rl)) (h2 : EvG l t2 Γ (pQ K 118 rm)) (h3 : EvG l t3 Γ (pT K [pQ K 710 c0, pQ K 592 c1, pQ K 710 s0, pQ K 592 s1, pQ K 710 z])) (hc : Low (rk + (rl * c0 + rm * s0)) (rl * c1 + rm * s1) z t) : EvG l (tCall (sp_law_spot_sign K) [] E0 (tCons t0 (tCons t1 (tCons t2 (tCons t3 tNil))))) Γ (pNeg) := e_call (fun _ _ _ pp kk => ⟨rk, rl, rm, c0, c1, s0, s1, z, t, hc, pp, kk⟩) (a_cons h0 (a_cons h1 (a_cons h2 (a_cons h3 a_nil))))
theorem sc_law_spot_sign : FnScope ["_law_fixed", "_law_along", "_law_across", "_law_spot", "_law_first", "_law_one", "_law_second", "_law_two", "_law_square", "_law_plain"] ["_law_fixed", "_law_along", "_law_across", "_law_spot"] (defScope s_law_spot_sign) := ⟨rfl, rfl, rfl, by decide +kernel, rfl, by decide +kernel, by decide +kernel⟩
theorem ok_law_spot_sign (T : Txt K mg) : Fn P w K mg base 6 "_law_spot_sign" ["_law_fixed", "_law_along", "_law_across", "_law_spot"] (sp_law_spot_sign K) := by
  refine fn_mk T 80 78 rfl rfl sc_law_spot_sign (fun vs H Q E h => len_law_spot_sign h) (fun _ _ _ _ _ _ us hl => match us, hl with | [_, _, _, _], _ => rfl) (fun f cdv A outer s H vs Q E hr h => ?_)
  obtain ⟨rk, rl, rm, c0, c1, s0, s1, z, t, hc, hp, k⟩ := h
  refine ⟨_, (pss_cons (ps_asg (pv 3) (pg_tup rfl (pgs_cons (pg_name (i := 4) sc_law_spot_sign.nd rfl (by first | exact Or.inl rfl | exact Or.inr rfl)) (pgs_cons (pg_name (i := 5) sc_law_spot_sign.nd rfl (by first | exact Or.inl rfl | exact Or.inr rfl)) (pgs_cons (pg_name (i := 6) sc_law_spot_sign.nd rfl (by first | exact Or.inl rfl | exact Or.inr rfl)) (pgs_cons (pg_name (i := 7) sc_law_spot_sign.nd rfl (by first | exact Or.inl rfl | exact Or.inr rfl)) (pgs_cons (pg_name (i := 8) sc_law_spot_sign.nd rfl (by first | exact Or.inl rfl | exact Or.inr rfl)) pgs_nil)))))))
      (pss_cons (ps_set (i := 9) sc_law_spot_sign.nd rfl (Or.inl rfl) (pe_fn (ok_law_add T) (hr.mono (by decide)) (pa_cons (pv 0) (pa_cons (pe_fn (ok_law_add T) (hr.mono (by decide)) (pa_cons (pe_fn (ok_law_mul T) (hr.mono (by decide)) (pa_cons (pv 1) (pa_cons (pv 4) pa_nil))) (pa_cons (pe_fn (ok_law_mul T) (hr.mono (by decide)) (pa_cons (pv 2) (pa_cons (pv 6) pa_nil))) pa_nil))) pa_nil))))
      (pss_one (ps_ret (pe_fn (ok_law_sign_of T) (hr.mono (by decide)) (pa_cons (pv 9) (pa_cons (pe_fn (ok_law_add T) (hr.mono (by decide)) (pa_cons (pe_fn (ok_law_mul T) (hr.mono (by decide)) (pa_cons (pv 1) (pa_cons (pv 5) pa_nil))) (pa_cons (pe_fn (ok_law_mul T) (hr.mono (by decide)) (pa_cons (pv 2) (pa_cons (pv 7) pa_nil))) pa_nil))) (pa_cons (pv 8) pa_nil)))))))), ?_⟩
  refine (?_ : Run none H _ _ ([some (pQ K 118 rk), some (pQ K 118 rl), some (pQ K 118 rm), some (pT K [pQ K 710 c0, pQ K 592 c1, pQ K 710 s0, pQ K 592 s1, pQ K 710 z]), none, none, none, none, none, none] : Ga)) _ H (Same.refl H) (fits0 hp trivial rfl)
  exact r_asg (e_var rfl) (g_tup rfl (gs_cons g_name (gs_cons g_name (gs_cons g_name (gs_cons g_name (gs_cons g_name gs_nil))))))
    (r_set (e_law_add (e_var rfl) (e_law_add (e_law_mul (e_var rfl) (e_var rfl) (by omega)) (e_law_mul (e_var rfl) (e_var rfl) (by omega)) (by omega)) (by omega))
    (r_done (e_law_sign_of (e_var rfl) (e_law_add (e_law_mul (e_var rfl) (e_var rfl) (by omega)) (e_law_mul (e_var rfl) (e_var rfl) (by omega)) (by omega)) (e_var rfl) ⟨hc, by omega, by omega, by omega⟩) k))
/-! law_told_spots -/
def sp_law_told_spots (K : PySem.W.Frag) : Sp := fun vs H Q _ => (True) ∧ AllP [pL K []] vs H ∧ ∀ v H', Same H H' → (pT K [] : Pd) v H' → Q v H'
theorem len_law_told_spots {vs : List V} {H : Hp} {Q : VK} {E : XK} (h : sp_law_told_spots K vs H Q E) : vs.length = 1 := by
  obtain ⟨_, pp, _⟩ := h
  exact AllP.len pp
theorem e_law_told_spots {Γ : Ga} {t0 : TE}   (h0 : EvG none t0 Γ (pL K [])) : EvG none (tCall (sp_law_told_spots K) [] E0 (tCons t0 tNil)) Γ (pT K []) := e_call (fun _ _ _ pp kk => ⟨trivial, pp, kk⟩) (a_cons h0 a_nil)
theorem sc_law_told_spots : FnScope ["_law_spots", "_law_spot"] ["_law_spots"] (defScope s_law_told_spots) := ⟨rfl, rfl, rfl, by decide +kernel, rfl, by decide +kernel, by decide +kernel⟩
theorem ok_law_told_spots (T : Txt K mg) : Fn P w K mg base 1 "_law_told_spots" ["_law_spots"] (sp_law_told_spots K) := by
  refine fn_mk T 81 79 rfl rfl sc_law_told_spots (fun vs H Q E h => len_law_told_spots h) (fun _ _ _ _ _ _ us hl => match us, hl with | [_], _ => rfl) (fun f cdv A outer s H vs Q E hr h => ?_)
  obtain ⟨hc, hp, k⟩ := h
  refine ⟨_, (pss_cons (ps_if (PW.pt (pw_and (pt_cmpR op_eq (pe_callB call_len_seq rfl (T.free 105 rfl) (by decide +kernel) (pa_cons (pv 0) pa_nil)) pe_int (nomark _)) (pw_and1 pt_dead))) (pss_one ps_never) pss_nil)
      (pss_one (ps_ret (pe_callTy call_tuple_of rfl (T.free 111 rfl) (by decide +kernel) (pa_cons (pe_lc (own := [("_law_spot", 1)]) (g := (gName 1)) (tt := tYes) rfl sc_law_told_spots.nd  (pi_list (pv 0)) (blkOk_by (own := [("_law_spot", 1)]) (N := ["_law_spots", "_law_spot"]) (sc := defScope s_law_told_spots) (by decide +kernel)) (fun _ _ _ _ _ => (pg_name (i := 1) sc_law_told_spots.nd rfl (by first | exact Or.inl rfl | exact Or.inr rfl))) (fun _ _ _ _ _ => pts_nil) (fun _ _ _ _ _ => (pe_tup (pa_cons pe_dead (pa_cons pe_dead pa_nil))))) pa_nil))))), ?_⟩
  refine (?_ : Run none H _ _ ([some (pL K []), none] : Ga)) _ H (Same.refl H) (fits0 hp trivial rfl)
  exact r_ifF (t_and (b := false) (c := false) (t_of (e_bl (e_eq rfl (e_lenL (e_var rfl)) e_c) rfl)) fun z => by cases z) (r_done (e_tupL (K := K) (e_lcL (K := K) (Ps := []) (Rs := []) (e_var rfl) trivial)) k)
/-! law_course_spots -/
def sp_law_course_spots (K : PySem.W.Frag) : Sp := fun vs H Q _ => ∃ (g : Fv) (p q : Int), (Hide g (p : Rat) (q : Rat) ∧ Tame g ∧ p.natAbs < 2 ^ 60 ∧ q.natAbs < 2 ^ 60) ∧ AllP [pFive K g, pW2 K p q] vs H ∧ ∀ v H', Same H H' → (pT K [] : Pd) v H' → Q v H'
theorem len_law_course_spots {vs : List V} {H : Hp} {Q : VK} {E : XK} (h : sp_law_course_spots K vs H Q E) : vs.length = 2 := by
  obtain ⟨_, _, _, _, pp, _⟩ := h
  exact AllP.len pp
theorem e_law_course_spots {Γ : Ga} {t0 t1 : TE} {g : Fv} {p q : Int}  (h0 : EvG none t0 Γ (pFive K g)) (h1 : EvG none t1 Γ (pW2 K p q)) (hc : Hide g (p : Rat) (q : Rat) ∧ Tame g ∧ p.natAbs < 2 ^ 60 ∧ q.natAbs < 2 ^ 60) : EvG none (tCall (sp_law_course_spots K) [] E0 (tCons t0 (tCons t1 tNil))) Γ (pT K []) := e_call (fun _ _ _ pp kk => ⟨g, p, q, hc, pp, kk⟩) (a_cons h0 (a_cons h1 a_nil))
theorem sc_law_course_spots : FnScope ["_law_five", "_law_course", "_law_ahead", "_law_aside", "_law_p", "_law_q", "_law_line", "_law_x", "_law_y", "_law_side", "_law_reach", "_law_is_some", "_law_spots", "_law_spot"] ["_law_five", "_law_course"] (defScope s_law_course_spots) := ⟨rfl, rfl, rfl, by decide +kernel, rfl, by decide +kernel, by decide +kernel⟩
theorem ok_law_course_spots (T : Txt K mg) : Fn P w K mg base 7 "_law_course_spots" ["_law_five", "_law_course"] (sp_law_course_spots K) := by
  refine fn_mk T 83 81 rfl rfl sc_law_course_spots (fun vs H Q E h => len_law_course_spots h) (fun _ _ _ _ _ _ us hl => match us, hl with | [_, _], _ => rfl) (fun f cdv A outer s H vs Q E hr h => ?_)
  obtain ⟨g, p, q, hc, hp, k⟩ := h
  obtain ⟨hid, tame, hp0, hq0⟩ := hc
  obtain ⟨b1, b2, b3, b4, b5, b6⟩ := rows_bd tame hp0 hq0
  refine ⟨_, (pss_cons (ps_asg (pe_fn (ok_law_ship_rows T) (hr.mono (by decide)) (pa_cons (pv 0) pa_nil)) (pg_unl rfl (pgs_cons (pg_name (i := 2) sc_law_course_spots.nd rfl (by first | exact Or.inl rfl | exact Or.inr rfl)) (pgs_cons (pg_name (i := 3) sc_law_course_spots.nd rfl (by first | exact Or.inl rfl | exact Or.inr rfl)) pgs_nil))))
      (pss_cons (ps_asg (pe_tup (pa_cons (pe_tup (pa_cons (pe_ix ix_tup (pv 1) pe_int (fun _ _ => rfl)) (pa_cons pe_int pa_nil))) (pa_cons (pe_tup (pa_cons (pe_ix ix_tup (pv 1) pe_int (fun _ _ => rfl)) (pa_cons pe_int pa_nil))) pa_nil))) (pg_tup rfl (pgs_cons (pg_name (i := 4) sc_law_course_spots.nd rfl (by first | exact Or.inl rfl | exact Or.inr rfl)) (pgs_cons (pg_name (i := 5) sc_law_course_spots.nd rfl (by first | exact Or.inl rfl | exact Or.inr rfl)) pgs_nil))))
      (pss_cons (ps_setLc (i := 6) (own := [("_law_x", 7), ("_law_y", 8)]) (g := (gTup K 2 (gCons (gName 7) (gCons (gName 8) gNil)))) (tt := tYes) rfl sc_law_course_spots.nd rfl rfl (sw_true rfl rfl rfl (by decide +kernel)) (RZ.pi_zipA rfl (T.free 112 rfl) (pa_cons (pv 2) (pa_cons (pv 3) pa_nil))) (blkOk_by (own := [("_law_x", 7), ("_law_y", 8)]) (N := ["_law_five", "_law_course", "_law_ahead", "_law_aside", "_law_p", "_law_q", "_law_line", "_law_x", "_law_y", "_law_side", "_law_reach", "_law_is_some", "_law_spots", "_law_spot"]) (sc := defScope s_law_course_spots) (by decide +kernel)) (fun _ _ _ _ _ => (pg_tup rfl (pgs_cons (pg_name (i := 7) sc_law_course_spots.nd rfl (by first | exact Or.inl rfl | exact Or.inr rfl)) (pgs_cons (pg_name (i := 8) sc_law_course_spots.nd rfl (by first | exact Or.inl rfl | exact Or.inr rfl)) pgs_nil)))) (fun _ _ _ _ _ => pts_nil) (fun _ _ _ _ _ => (pe_fn (ok_law_add T) (hr.mono (by decide)) (pa_cons (pe_fn (ok_law_mul T) (hr.mono (by decide)) (pa_cons (pv 7) (pa_cons (pv 5) pa_nil))) (pa_cons (pe_fn (ok_law_mul T) (hr.mono (by decide)) (pa_cons (pv 8) (pa_cons (pv 4) pa_nil))) pa_nil)))))
      (pss_cons (ps_set (i := 9) sc_law_course_spots.nd rfl (Or.inr rfl) (pe_lc (own := [("_law_x", 7), ("_law_y", 8)]) (g := (gTup K 2 (gCons (gName 7) (gCons (gName 8) gNil)))) (tt := tYes) rfl sc_law_course_spots.nd  (RZ.pi_zipA rfl (T.free 112 rfl) (pa_cons (pv 2) (pa_cons (pv 3) pa_nil))) (blkOk_by (own := [("_law_x", 7), ("_law_y", 8)]) (N := ["_law_five", "_law_course", "_law_ahead", "_law_aside", "_law_p", "_law_q", "_law_line", "_law_x", "_law_y", "_law_side", "_law_reach", "_law_is_some", "_law_spots", "_law_spot"]) (sc := defScope s_law_course_spots) (by decide +kernel)) (fun _ _ _ _ _ => (pg_tup rfl (pgs_cons (pg_name (i := 7) sc_law_course_spots.nd rfl (by first | exact Or.inl rfl | exact Or.inr rfl)) (pgs_cons (pg_name (i := 8) sc_law_course_spots.nd rfl (by first | exact Or.inl rfl | exact Or.inr rfl)) pgs_nil)))) (fun _ _ _ _ _ => pts_nil) (fun _ _ _ _ _ => (pe_fn (ok_law_gap T) (hr.mono (by decide)) (pa_cons (pe_fn (ok_law_mul T) (hr.mono (by decide)) (pa_cons (pv 7) (pa_cons (pv 4) pa_nil))) (pa_cons (pe_fn (ok_law_mul T) (hr.mono (by decide)) (pa_cons (pv 8) (pa_cons (pv 5) pa_nil))) pa_nil))))))
      (pss_cons (ps_if (PW.pt (pw_and (pt_cmpR op_eq (pe_ix ix_tup (pe_ix ix_list (pv 6) pe_int (fun _ _ => rfl)) pe_int (fun _ _ => rfl)) pe_int (nomark _)) (pw_and1 (pt_cmpR op_eq (pe_ix ix_tup (pe_ix ix_list (pv 6) pe_int (fun _ _ => rfl)) pe_int (fun _ _ => rfl)) pe_int (nomark _))))) pss_never pss_nil)
      (pss_cons (ps_set (i := 12) sc_law_course_spots.nd rfl (Or.inl rfl) (pe_fn (ok_law_line_spots T) (hr.mono (by decide)) (pa_cons (pe_ix ix_list (pv 6) pe_int (fun _ _ => rfl)) (pa_cons (pe_ix ix_list (pv 6) pe_int (fun _ _ => rfl)) (pa_cons (pe_ix ix_list (pv 6) pe_int (fun _ _ => rfl)) pa_nil)))))
      (pss_one (ps_ret (pe_fn (ok_law_told_spots T) (hr.mono (by decide)) (pa_cons (pe_lc (own := [("_law_spot", 13)]) (g := (gName 13))  rfl sc_law_course_spots.nd  (pi_list (pv 12)) (blkOk_by (own := [("_law_spot", 13)]) (N := ["_law_five", "_law_course", "_law_ahead", "_law_aside", "_law_p", "_law_q", "_law_line", "_law_x", "_law_y", "_law_side", "_law_reach", "_law_is_some", "_law_spots", "_law_spot"]) (sc := defScope s_law_course_spots) (by decide +kernel)) (fun _ _ _ _ _ => (pg_name (i := 13) sc_law_course_spots.nd rfl (by first | exact Or.inl rfl | exact Or.inr rfl))) (fun _ _ _ _ _ => (pts_one (pt_cmpR op_gt (pe_fn (ok_law_spot_sign T) (hr.mono (by decide)) (pa_cons (pe_ix (show IxR _ (rIxL K) from ix_list) (pv 9) pe_int (fun _ _ => rfl)) (pa_cons (pe_ix (show IxR _ (rIxL K) from ix_list) (pv 9) pe_int (fun _ _ => rfl)) (pa_cons (pe_ix (show IxR _ (rIxL K) from ix_list) (pv 9) pe_int (fun _ _ => rfl)) (pa_cons (pv 13) pa_nil))))) pe_int (nomark _)))) (fun _ _ _ _ _ => (pv 13))) pa_nil)))))))))), ?_⟩
  refine (?_ : Run none H _ _ ([some (pFive K g), some (pW2 K p q), none, none, none, none, none, none, none, none, none, none, none, none] : Ga)) _ H (Same.refl H) (fits0 hp trivial rfl)
  refine r_asg (e_law_ship_rows (e_var rfl)) (g_unl (K := K) rfl (gs_cons g_name (gs_cons g_name gs_nil))) ?_
  refine r_asg (P := pT K [pQ K 60 (p : Rat), pQ K 60 (q : Rat)]) (e_tup (K := K) (a_cons (e_whole (n := 60) hp0 (by decide) (e_at 0 (e_var rfl) rfl)) (a_cons (e_whole (n := 60) hq0 (by decide) (e_at 1 (e_var rfl) rfl)) a_nil))) (g_tup rfl (gs_cons g_name (gs_cons g_name gs_nil))) ?_
  refine r_weak (Δ := [some (pFive K g), some (pW2 K p q), some (pL K [pQ K 54 g.b, pQ K 56 (1 + g.d), pQ K 109 (g.a - g.e)]), some (pL K [pQ K 54 g.c, pQ K 109 (g.a + g.e), pQ K 56 (g.d - 1)]), some (pQ K 60 (p : Rat)), some (pQ K 60 (q : Rat)), none, none, none, none, none, none, none, none]) (by repeat first | exact trivial | refine ⟨rfl, ?_⟩) ?_
  refine r_set (l3_bd (e_lcZL (K := K) (Rs := [pQ K 229 (g.b * (q : Rat) + g.c * (p : Rat)), pQ K 286 ((1 + g.d) * (q : Rat) + (g.a + g.e) * (p : Rat)), pQ K 286 ((g.a - g.e) * (q : Rat) + (g.d - 1) * (p : Rat))]) (a_cons (e_var rfl) (a_cons (e_var rfl) a_nil)) rfl rfl (by simp) (zip3 (turn1_two (by decide) ?_) (turn1_two (by decide) ?_) (turn1_two (by decide) ?_))) (by grind) (by grind) (by grind) b1 b2 b3) ?_
  · exact e_law_add (m := 54 + 60) (n := 54 + 60) (e_law_mul (m := 54) (n := 60) (e_var rfl) (e_var rfl) (by omega)) (e_law_mul (m := 54) (n := 60) (e_var rfl) (e_var rfl) (by omega)) (by omega)
  · exact e_law_add (m := 56 + 60) (n := 109 + 60) (e_law_mul (m := 56) (n := 60) (e_var rfl) (e_var rfl) (by omega)) (e_law_mul (m := 109) (n := 60) (e_var rfl) (e_var rfl) (by omega)) (by omega)
  · exact e_law_add (m := 109 + 60) (n := 56 + 60) (e_law_mul (m := 109) (n := 60) (e_var rfl) (e_var rfl) (by omega)) (e_law_mul (m := 56) (n := 60) (e_var rfl) (e_var rfl) (by omega)) (by omega)
  refine r_set (l3_bd (e_lcZL (K := K) (Rs := [pQ K 229 (g.b * (p : Rat) - g.c * (q : Rat)), pQ K 286 ((1 + g.d) * (p : Rat) - (g.a + g.e) * (q : Rat)), pQ K 286 ((g.a - g.e) * (p : Rat) - (g.d - 1) * (q : Rat))]) (a_cons (e_var rfl) (a_cons (e_var rfl) a_nil)) rfl rfl (by simp) (zip3 (turn1_two (by decide) ?_) (turn1_two (by decide) ?_) (turn1_two (by decide) ?_))) (by grind) (by grind) (by grind) b4 b5 b6) ?_
  · exact e_law_gap (m := 54 + 60) (n := 54 + 60) (e_law_mul (m := 54) (n := 60) (e_var rfl) (e_var rfl) (by omega)) (e_law_mul (m := 54) (n := 60) (e_var rfl) (e_var rfl) (by omega)) (by omega)
  · exact e_law_gap (m := 56 + 60) (n := 109 + 60) (e_law_mul (m := 56) (n := 60) (e_var rfl) (e_var rfl) (by omega)) (e_law_mul (m := 109) (n := 60) (e_var rfl) (e_var rfl) (by omega)) (by omega)
  · exact e_law_gap (m := 109 + 60) (n := 56 + 60) (e_law_mul (m := 109) (n := 60) (e_var rfl) (e_var rfl) (by omega)) (e_law_mul (m := 56) (n := 60) (e_var rfl) (e_var rfl) (by omega)) (by omega)
  refine r_if (b := false) (t_is (t_and (t_of (e_eq rfl (e_num (e_ixL (K := K) (i := 1) rfl (e_var rfl))) e_c)) fun _ => t_of (e_eq rfl (e_num (e_ixL (K := K) (i := 2) rfl (e_var rfl))) e_c)) ?_) (fun z => by cases z) fun _ => r_next0 (r_set (e_law_line_spots (e_ixL (K := K) (i := 0) rfl (e_var rfl)) (e_ixL (K := K) (i := 1) rfl (e_var rfl)) (e_ixL (K := K) (i := 2) rfl (e_var rfl)) hid.nz) (r_done (e_law_told_spots (e_lcNoneX (K := K) (e_var rfl) ?_)) k))
  · rw [Bool.and_eq_false_iff]
    by_cases h : (q : Rat) * (1 + g.d) + (p : Rat) * (g.a + g.e) = 0
    · refine .inr (decide_eq_false fun e => hid.nz ⟨h, num_zero.mp (by injection e)⟩)
    · refine .inl (decide_eq_false fun e => h (num_zero.mp (by injection e)))
  · intro ws hw P hP
    obtain ⟨w, hm, rfl⟩ := List.mem_map.mp hP
    have z0 := hw.2.resolve_left fun e => by rw [e] at hm; cases hm
    obtain ⟨t, lo⟩ := spot_low hid (hw.1 w hm) z0
    exact t_neg (e_law_spot_sign (e_ixL (K := K) (i := 0) rfl (e_var rfl)) (e_ixL (K := K) (i := 1) rfl (e_var rfl)) (e_ixL (K := K) (i := 2) rfl (e_var rfl)) (e_var rfl) lo)
end
end K30

/-! text: KDrw -/
set_option Elab.async false
set_option linter.all false
set_option maxRecDepth 100000
set_option maxHeartbeats 4000000
/-! own layer, eighth part: drawing from the lode -/
namespace K30
open PySem PySem.Spec PyProof.Rows L2 K30M
/-- a whole number of which this is known -/
abbrev pI (C : Int → Prop) : Pd := pX C fun z => pV (.int z)
abbrev pAny : Pd := pI fun _ => True
section
variable {l : Option Addr} {a : Addr} {H0 : Hp} {D : Ends} {K : PySem.W.Frag} {Γ Δ : Ga} {P P' R : Pd} {Ps : List Pd} {te ta tb : TE} {tt : TT} {t u : TS} {tr : TA} {i j : Nat} {C C' Cr : Int → Prop} {m n : Int}
theorem e_pi (h : EvG l te Γ (pV (.int m))) (c : C m) : EvG l te Γ (pI C) := h.imp fun v H p => ⟨m, c, p⟩
theorem i_imp (h : EvG l te Γ (pI C)) (c : ∀ m, C m → C' m) : EvG l te Γ (pI C') := h.imp fun v H ⟨m, k, p⟩ => ⟨m, c m k, p⟩
theorem x_IX {Ci : Int → Int → Prop} {g : Int → Int → Int} (ha : EvG l ta Γ (pI C)) (hb : EvG l tb Γ (pI C')) (hc : ∀ m n, C m → C' n → Ci m n) (hr : ∀ m n, C m → C' n → Cr (g m n)) : EvG l (tOp (rI Ci fun i j => .int (g i j)) ta tb) Γ (pI Cr) :=
  e_op (P := pI C) (P' := pI C') (fun x y H Q hx hy k => by
    obtain ⟨m, c, e⟩ := hx
    obtain ⟨n, c', e'⟩ := hy
    exact ⟨m, n, e, e', hc m n c c', k _ H (Same.refl H) ⟨_, hr m n c c', rfl⟩⟩) ha hb
theorem x_I0 {g : Int → Int → Int} (ha : EvG l ta Γ (pI C)) (hb : EvG l tb Γ (pI C')) (hr : ∀ m n, C m → C' n → Cr (g m n)) : EvG l (tOp (rI0 fun i j => .int (g i j)) ta tb) Γ (pI Cr) :=
  e_op (P := pI C) (P' := pI C') (fun x y H Q hx hy k => by
    obtain ⟨m, c, e⟩ := hx
    obtain ⟨n, c', e'⟩ := hy
    exact ⟨m, n, e, e', k _ H (Same.refl H) ⟨_, hr m n c c', rfl⟩⟩) ha hb
theorem x_int1 (ha : EvG l ta Γ (pI C)) : EvG l (tCB rInt1 (tCons ta tNil)) Γ (pI C) :=
  e_cb (Ps := [pI C]) (fun vs H Q p k => by
    obtain ⟨x, rfl, m, c, e⟩ := AllP.one p
    have e : x = .int m := e
    subst e
    exact .inl ⟨m, rfl, k _ H (Same.refl H) ⟨m, c, rfl⟩⟩) (a_cons ha a_nil)
theorem x_abs (ha : EvG l ta Γ (pI C)) (hr : ∀ m, C m → Cr (m.natAbs : Int)) : EvG l (tCB rAbs (tCons ta tNil)) Γ (pI Cr) :=
  e_cb (Ps := [pI C]) (fun vs H Q p k => by
    obtain ⟨x, rfl, m, c, e⟩ := AllP.one p
    have e : x = .int m := e
    subst e
    have em : (if m < 0 then -m else m) = (m.natAbs : Int) := by split <;> omega
    refine ⟨m, rfl, k _ H (Same.refl H) ?_⟩
    rw [em]
    exact ⟨_, hr m c, rfl⟩) (a_cons ha a_nil)
/-- a test that may fall either way -/
def EvB (l : Option Addr) (tt : TT) (Γ : Ga) : Prop := ∀ σ H Q, Fits l Γ σ H → (∀ b H', Up l H H' → Q b H') → tt σ H Q
theorem b_I {g : Int → Int → Bool} (ha : EvG l ta Γ (pI C)) (hb : EvG l tb Γ (pI C')) : EvB l (tTest (tOp (rI0 fun i j => .bl (g i j)) ta tb)) Γ := fun σ H Q f q =>
  ha σ H _ f fun x H1 u1 b1 => hb σ H1 _ (f.up u1) fun y H2 u2 b2 => by
    obtain ⟨m, c, e⟩ := Box.now u2.lo (Box.up u2 b1)
    obtain ⟨n, c', e'⟩ := Box.now u2.lo b2
    exact ⟨m, n, e, e', _, rfl, q _ H2 (u1.trans u2)⟩
theorem b_eq (ha : EvG l ta Γ (pI C)) (hb : EvG l tb Γ (pI C')) : EvB l (tTest (tOp rEq ta tb)) Γ := fun σ H Q f q =>
  ha σ H _ f fun x H1 u1 b1 => hb σ H1 _ (f.up u1) fun y H2 u2 b2 => by
    obtain ⟨m, c, e⟩ := Box.now u2.lo (Box.up u2 b1)
    obtain ⟨n, c', e'⟩ := Box.now u2.lo b2
    have e : x = .int m := e
    have e' : y = .int n := e'
    subst e e'
    exact ⟨rfl, _, rfl, q _ H2 (u1.trans u2)⟩
theorem b_of {b : Bool} (h : EvT l tt Γ b) : EvB l tt Γ := fun σ H Q f q => h σ H Q f fun H' u => q b H' u
theorem e_ifB (h : EvB l tt Γ) (h1 : EvG l ta Γ P) (h2 : EvG l tb Γ P) : EvG l (tIf tt ta tb) Γ P := fun σ H Q f q => h σ H _ f fun b H1 u => by
  cases b with
  | true =>
    rw [if_pos rfl]
    exact h1 σ H1 Q (f.up u) fun w H2 u2 b2 => q w H2 (u.trans u2) b2
  | false =>
    rw [if_neg Bool.false_ne_true]
    exact h2 σ H1 Q (f.up u) fun w H2 u2 b2 => q w H2 (u.trans u2) b2
theorem r_ifB {s d : TS} (h : EvB l tt Γ) (h1 : Run l H0 s { D with nx := t D } Γ) (h2 : Run l H0 d { D with nx := t D } Γ) : Run l H0 (tSeq (tIfS tt s d) t) D Γ := fun σ H u f =>
  h σ H _ f fun b H1 u1 => by
    cases b with
    | true =>
      rw [if_pos rfl]
      exact h1 σ H1 (u.trans u1) (f.up u1)
    | false =>
      rw [if_neg Bool.false_ne_true]
      exact h2 σ H1 (u.trans u1) (f.up u1)
/-- an if without else that may be passed; behind it Δ is known -/
theorem r_ifJ {s : TS} (h : EvB l tt Γ) (h1 : ∀ N : L2.St → Hp → Prop, (∀ σ H, Up l H0 H → Fits l Δ σ H → N σ H) → Run l H0 s { D with nx := N } Γ) (w : ∀ σ H, Fits l Γ σ H → Fits l Δ σ H) (after : Run l H0 t D Δ) : Run l H0 (tSeq (tIfS tt s tNext) t) D Γ :=
  r_ifB h (h1 _ fun σ H u f => after σ H u f) fun σ H u f => after σ H u (w σ H f)
theorem r_open {α : Type} {Co : α → Prop} {f : α → Pd} [∀ x, Mo l (f x)] (h : gt Γ i = some P) (w : ∀ v H, P v H → ∃ x, Co x ∧ f x v H) (r : ∀ x, Co x → Run l H0 t D (pt Γ i (some (f x)))) : Run l H0 t D Γ := fun σ H u f' => by
  obtain ⟨v, e, b⟩ := FitL.get f'.2 h
  obtain ⟨x, c, p⟩ := w v H (Box.now f'.1 b)
  have := f'.put (i := i) (box_of f'.1 p)
  have es : σ.set i (some v) = σ := by
    apply List.ext_getElem?
    intro k
    rw [List.getElem?_set]
    split
    · rename_i hk
      subst hk
      rw [e]
      split
      · rfl
      · rename_i h2
        exact absurd (List.getElem?_eq_some_iff.mp e).1 h2
    · rfl
  rw [es] at this
  exact r x c σ H u this
/-- what is known of a slot, weaker -/
theorem FitL.repl {Q : Pd} {σ : L2.St} {H : Hp} (h : gt Γ i = some P) (w : ∀ v, Box l P v H → Box l Q v H) (f : Fits l Γ σ H) : Fits l (pt Γ i (some Q)) σ H := by
  obtain ⟨v, e, b⟩ := FitL.get f.2 h
  have := f.put (i := i) (w v b)
  have es : σ.set i (some v) = σ := by
    apply List.ext_getElem?
    intro k
    rw [List.getElem?_set]
    split
    · rename_i hk
      subst hk
      rw [e]
      split
      · rfl
      · rename_i h2
        exact absurd (List.getElem?_eq_some_iff.mp e).1 h2
    · rfl
  rw [es] at this
  exact this
/-- no drawing within -/
theorem fits_none {σ : L2.St} {H : Hp} (lo : Lode a H) : ∀ {Γ : Ga} {σ : L2.St}, FitL (some a) Γ σ H → FitL none Γ σ H
  | [], [], _ => trivial
  | [], _ :: _, h => h.elim
  | none :: _, [], h => h.elim
  | some _ :: _, [], h => h.elim
  | some _ :: _, none :: _, h => h.elim
  | none :: Γ, _ :: σ, h => by
    have h' : FitL (some a) Γ σ H := h
    show FitL none Γ σ H
    exact fits_none (σ := σ) lo h'
  | some _ :: _, some _ :: σ, h => ⟨fun H' s => h.1 H' (Up.same (l := some a) lo s), fits_none (σ := σ) lo h.2⟩
theorem e_none [mo : Mo (some a) P] (h : EvG none te Γ P) : EvG (some a) te Γ P := fun σ H Q f q =>
  h σ H Q ⟨trivial, fits_none (σ := σ) f.1 f.2⟩ fun v H' s b => by
    have u : Up (some a) H H' := Up.same (l := some a) f.1 s
    exact q v H' u (box_of (l := some a) u.lo (Box.now (l := none) trivial b))
/-! ### the lode -/
theorem e_lode (i : Nat) (h : gt Γ j = some (pV (.ref a))) (hi : i < 3) : EvG (some a) (tOp (rIxL K) (tVar j) (tC (.int (i : Int)))) Γ pAny := fun σ H Q f q => by
  obtain ⟨v, e, b⟩ := FitL.get f.2 h
  have ev : v = .ref a := Box.now f.1 b
  subst ev
  obtain ⟨x, y, z, el⟩ := f.1
  refine ⟨_, e, ?_⟩
  match i, hi with
  | 0, _ => exact ⟨a, _, 0, .int x, rfl, rfl, SqL.of el, atI_nat (j := 0) rfl, q _ H (Up.refl f.1) (box_of f.1 ⟨x, trivial, rfl⟩)⟩
  | 1, _ => exact ⟨a, _, 1, .int y, rfl, rfl, SqL.of el, atI_nat (j := 1) rfl, q _ H (Up.refl f.1) (box_of f.1 ⟨y, trivial, rfl⟩)⟩
  | 2, _ => exact ⟨a, _, 2, .int z, rfl, rfl, SqL.of el, atI_nat (j := 2) rfl, q _ H (Up.refl f.1) (box_of f.1 ⟨z, trivial, rfl⟩)⟩
theorem up_lode {H : Hp} (lo : Lode a H) (x y z : Int) : Up (some a) H (upd H a (.lst [.int x, .int y, .int z])) := ⟨⟨x, y, z, upd_same⟩, fun b o n e => by
  rw [upd_ne n]
  exact e⟩
theorem g_lode {i : Nat} {v : V} {σ : L2.St} {H : Hp} {Q : L2.St → Hp → Prop} (f : Fits (some a) Γ σ H) (h : gt Γ j = some (pV (.ref a))) (hi : i < 3) (p : pAny v H) (q : ∀ H', Up (some a) H H' → Q σ H') : gSub (tVar j) (tC (.int (i : Int))) rSetL v σ H Q := by
  obtain ⟨w, e, b⟩ := FitL.get f.2 h
  have ew : w = .ref a := Box.now f.1 b
  subst ew
  obtain ⟨m, _, em⟩ := p
  have em : v = .int m := em
  subst em
  obtain ⟨x, y, z, el⟩ := id f.1
  refine ⟨_, e, ?_⟩
  match i, hi with
  | 0, _ => exact ⟨a, _, 0, 0, rfl, rfl, el, rfl, q _ (up_lode f.1 m y z)⟩
  | 1, _ => exact ⟨a, _, 1, 1, rfl, rfl, el, rfl, q _ (up_lode f.1 x m z)⟩
  | 2, _ => exact ⟨a, _, 2, 2, rfl, rfl, el, rfl, q _ (up_lode f.1 x y m)⟩
theorem r_setLode (i : Nat) (h : gt Γ j = some (pV (.ref a))) (hi : i < 3) (he : EvG (some a) te Γ pAny) (r : Run (some a) H0 t D Γ) : Run (some a) H0 (tSeq (tAsg te (gSub (tVar j) (tC (.int (i : Int))) rSetL)) t) D Γ := fun σ H u f =>
  he σ H _ f fun v H1 u1 b1 => g_lode (f.up u1) h hi (Box.now u1.lo b1) fun H2 u2 => r σ H2 ((u.trans u1).trans u2) ((f.up u1).up u2)
theorem r_divLode {i2 : Nat} (h : gt Γ j = some (pV (.ref a))) (he : EvG (some a) te Γ (pT K [pAny, pI C])) (r : Run (some a) H0 t D (pt Γ i2 (some (pI C)))) : Run (some a) H0 (tSeq (tAsg te (gTup K 2 (gCons (gSub (tVar j) (tC (.int 0)) rSetL) (gCons (gName i2) gNil)))) t) D Γ := fun σ H u f =>
  he σ H _ f fun v H1 u1 b1 => by
    obtain ⟨p, vs, e, s, q⟩ := Box.now u1.lo b1
    obtain ⟨x, y, rfl, px, py⟩ := AllP.two q
    refine ⟨p, [x, y], e, s, rfl, x, [y], rfl, g_lode (i := 0) (f.up u1) h (by decide) px fun H2 u2 => ⟨y, [], rfl, rfl, ?_⟩⟩
    exact r _ H2 ((u.trans u1).trans u2) (((f.up u1).up u2).put (box_of (P := pI C) u2.lo py))
theorem e_divmod {rr : List V → Hp → VK → Prop} (hrr : rr = fun xs H Q => ∃ i j, xs = [.int i, .int j] ∧ CDivP i j ∧ ∀ p, H p = none → Q (.ref p) (upd H p (.tup [.int (i / j), .int (i % j)]))) (ha : EvG l ta Γ pAny) (hb : EvG l tb Γ (pV (.int n))) (h1 : 0 < n) (h2 : n < 1073741824) : EvG l (tCB rr (tCons ta (tCons tb tNil))) Γ (pT K [pAny, pI fun d => 0 ≤ d ∧ d < n]) := by
  subst hrr
  exact e_cb (Ps := [pAny, pV (.int n)]) (fun vs H Q p k => by
    obtain ⟨x, y, rfl, ⟨m, _, e1⟩, e2⟩ := AllP.two p
    have e1 : x = .int m := e1
    have e2 : y = .int n := e2
    subst e1 e2
    refine ⟨m, n, rfl, ⟨h1, PyProof.noPylong_small (by omega)⟩, fun p np => k _ _ (Same.new np) ⟨p, _, rfl, .inl (.inl upd_same), ⟨_, trivial, rfl⟩, ⟨_, ⟨Int.emod_nonneg _ (by omega), Int.emod_lt_of_pos _ h1⟩, rfl⟩, trivial⟩⟩) (a_cons ha (a_cons hb a_nil))
theorem e_lenLg (h : EvG l te Γ (pLg l K Ps)) : EvG l (tCB (rLenS K) (tCons te tNil)) Γ (pV (.int (Ps.length : Int))) :=
  e_cb (Ps := [pLg l K Ps]) (fun vs H Q p k => by
    obtain ⟨x, rfl, q⟩ := AllP.one p
    obtain ⟨a, ys, e, s, q2⟩ := pLg_L q
    subst e
    exact ⟨a, ys, rfl, .inl s, k _ H (Same.refl H) (by rw [AllP.len q2]; rfl)⟩) (a_cons h a_nil)
theorem x_ixL [Mo l R] (ha : EvG l ta Γ (pLg l K Ps)) (hb : EvG l tb Γ (pI fun d => 0 ≤ d ∧ d < (Ps.length : Int))) (w : ∀ P ∈ Ps, ∀ v H, P v H → R v H) : EvG l (tOp (rIxL K) ta tb) Γ R :=
  e_op (P := pLg l K Ps) (P' := pI fun d => 0 ≤ d ∧ d < (Ps.length : Int)) (fun x y H Q hx hy k => by
    obtain ⟨a, vs, e, s, p⟩ := pLg_L hx
    obtain ⟨d, ⟨d0, d1⟩, e2⟩ := hy
    obtain ⟨j, rfl⟩ : ∃ j : Nat, d = (j : Int) := ⟨d.toNat, by omega⟩
    have hj : j < Ps.length := by omega
    obtain ⟨v, e3, p3⟩ := AllP.at p (List.getElem?_eq_getElem hj)
    exact ⟨a, vs, (j : Int), v, e, e2, s, atI_nat e3, k v H (Same.refl H) (w _ (List.getElem_mem _) v H p3)⟩) ha hb
theorem e_tupLg [mo : MoL l Ps] [mt : MoTL K Ps] (h : EvG l te Γ (pLg l K Ps)) : EvG l (tCB (rTuple K) (tCons te tNil)) Γ (pT K Ps) :=
  e_cb (Ps := [pLg l K Ps]) (fun vs H Q p k => by
    obtain ⟨x, rfl, q⟩ := AllP.one p
    obtain ⟨a, ys, e, n, s, q⟩ := q
    subst e
    refine ⟨a, ys, rfl, .inl ⟨SqL.of s, fun t nt => ?_⟩⟩
    have u : Same H (upd H t (.tup ys)) := Same.new nt
    exact k _ _ u ⟨t, ys, rfl, .inl (.inl upd_same), mt.mo ys _ _ (Tup.same u) q⟩) (a_cons h a_nil)
theorem e_min (ha : EvG l ta Γ (pV (.int m))) (hb : EvG l tb Γ (pV (.int n))) : EvG l (tCB (fun xs H Q => ∃ i j, xs = [.int i, .int j] ∧ Q (.int (if j < i then j else i)) H) (tCons ta (tCons tb tNil))) Γ (pV (.int (if n < m then n else m))) :=
  e_cb (Ps := [pV (.int m), pV (.int n)]) (fun vs H Q p k => by
    obtain ⟨x, y, rfl, e1, e2⟩ := AllP.two p
    have e1 : x = .int m := e1
    have e2 : y = .int n := e2
    subst e1 e2
    exact ⟨m, n, rfl, k _ H (Same.refl H) rfl⟩) (a_cons ha (a_cons hb a_nil))
end
/-- a fraction written down -/
theorem e_fr {l : Option Addr} {Γ : Ga} {K : PySem.W.Frag} {i d : Int} {n : Nat} {q : Rat} (h1 : q.num = i) (h2 : (q.den : Int) = d) (b : Bd n q) : EvG l (tTup (tCons (tC (.int i)) (tCons (tC (.int d)) tNil))) Γ (pQ K n q) :=
  f_q (e_to (e_tup (K := K) (a_cons e_c (a_cons e_c a_nil))) (by unfold pF; rw [h1, h2])) b
/-- a drawn fraction -/
abbrev pPr (K : PySem.W.Frag) (W U : Nat) : Pd := pX (Prt W U) fun q => pQ K 7 q
end K30

/-! text: KMath5 -/
set_option linter.all false
set_option maxHeartbeats 4000000
/-! plain mathematics: the drawn fives are tame -/
namespace K30M
/-- a common number below M -/
def TameN (M : Nat) (f : Fv) : Prop := ∃ N : Nat, 0 < N ∧ N < M ∧ Cd N 32 f.a ∧ Cd N 32 f.b ∧ Cd N 32 f.c ∧ Cd N 32 f.d ∧ Cd N 32 f.e
theorem TameN.tame {M : Nat} {f : Fv} (h : TameN M f) (hM : M ≤ 2 ^ 48) : Tame f := by
  obtain ⟨N, a, b, r⟩ := h
  exact ⟨N, a, Nat.lt_of_lt_of_le b hM, r⟩
theorem tame_of {M n1 n2 n3 n4 n5 b1 b2 b3 b4 b5 : Nat} {f : Fv} (p1 : 0 < n1) (p2 : 0 < n2) (p3 : 0 < n3) (p4 : 0 < n4) (p5 : 0 < n5) (h1 : Cd n1 b1 f.a) (h2 : Cd n2 b2 f.b) (h3 : Cd n3 b3 f.c) (h4 : Cd n4 b4 f.d) (h5 : Cd n5 b5 f.e)
    (l1 : b1 ≤ 32) (l2 : b2 ≤ 32) (l3 : b3 ≤ 32) (l4 : b4 ≤ 32) (l5 : b5 ≤ 32) (hM : n1 * n2 * n3 * n4 * n5 < M) : TameN M f := by
  refine ⟨n1 * n2 * n3 * n4 * n5, Nat.mul_pos (Nat.mul_pos (Nat.mul_pos (Nat.mul_pos p1 p2) p3) p4) p5, hM, h1.up ⟨n2 * n3 * n4 * n5, ?_⟩ l1, h2.up ⟨n1 * n3 * n4 * n5, ?_⟩ l2, h3.up ⟨n1 * n2 * n4 * n5, ?_⟩ l3, h4.up ⟨n1 * n2 * n3 * n5, ?_⟩ l4, h5.up ⟨n1 * n2 * n3 * n4, ?_⟩ l5⟩ <;> grind
theorem mul5_le {a b c d e A B C D E : Nat} (h1 : a ≤ A) (h2 : b ≤ B) (h3 : c ≤ C) (h4 : d ≤ D) (h5 : e ≤ E) : a * b * c * d * e ≤ A * B * C * D * E := Nat.mul_le_mul (Nat.mul_le_mul (Nat.mul_le_mul (Nat.mul_le_mul h1 h2) h3) h4) h5
theorem tame_any {W U : Nat} {a b c d e : Rat} (hW : W ≤ 9) (hU : U ≤ 9) (h1 : Prt W U a) (h2 : Prt W U b) (h3 : Prt W U c) (h4 : Prt W U d) (h5 : Prt W U e) : TameN (2 ^ 40) ⟨a, b, c, d, e⟩ := by
  obtain ⟨u1, p1, q1, k1⟩ := h1.cd
  obtain ⟨u2, p2, q2, k2⟩ := h2.cd
  obtain ⟨u3, p3, q3, k3⟩ := h3.cd
  obtain ⟨u4, p4, q4, k4⟩ := h4.cd
  obtain ⟨u5, p5, q5, k5⟩ := h5.cd
  refine tame_of p1 p2 p3 p4 p5 k1 k2 k3 k4 k5 (by omega) (by omega) (by omega) (by omega) (by omega) ?_
  exact Nat.lt_of_le_of_lt (mul5_le (Nat.le_trans q1 hU) (Nat.le_trans q2 hU) (Nat.le_trans q3 hU) (Nat.le_trans q4 hU) (Nat.le_trans q5 hU)) (by decide)
theorem cd_one (n : Nat) (h : 0 < n) : Cd n 1 (1 : Rat) := (Cd.int 1 (B := 1) (by decide)).up ⟨n, by omega⟩ (by decide)
theorem cd_zero : Cd 1 0 (0 : Rat) := ⟨0, by decide +kernel, by decide⟩
theorem cd_fr (n : Nat) {q : Rat} (h : q * (n : Rat) = 1) (hn : 0 < n) : Cd n 1 q := ⟨1, h, by
  show 1 ≤ _
  omega⟩
def r16 : Rat := ⟨1, 6, by decide, by decide⟩
def r15 : Rat := ⟨1, 5, by decide, by decide⟩
def r19 : Rat := ⟨1, 9, by decide, by decide⟩
theorem cd16 : Cd 6 1 r16 := cd_fr 6 (by decide +kernel) (by decide)
theorem cd15 : Cd 5 1 r15 := cd_fr 5 (by decide +kernel) (by decide)
theorem cd19 : Cd 9 1 r19 := cd_fr 9 (by decide +kernel) (by decide)
theorem prt9 {W U : Nat} {q : Rat} (h : Prt W U q) (hW : W ≤ 9) (hU : U ≤ 9) : ∃ u, 0 < u ∧ u ≤ 9 ∧ Cd u 9 q := by
  obtain ⟨u, p, q1, k⟩ := h.cd
  exact ⟨u, p, by omega, k.up (Nat.dvd_refl _) hW⟩
theorem tame4 {W U : Nat} {a b c d e : Rat} (hW : W ≤ 9) (hU : U ≤ 9) (h1 : Prt W U a) (h2 : Prt W U b) (h3 : Prt W U c) (h4 : Prt W U d) (h5 : Prt W U e) : TameN (2 ^ 48) ⟨a * r16, b * r16, c * r16, d * r16, e * r16⟩ := by
  obtain ⟨u1, p1, q1, k1⟩ := prt9 h1 hW hU
  obtain ⟨u2, p2, q2, k2⟩ := prt9 h2 hW hU
  obtain ⟨u3, p3, q3, k3⟩ := prt9 h3 hW hU
  obtain ⟨u4, p4, q4, k4⟩ := prt9 h4 hW hU
  obtain ⟨u5, p5, q5, k5⟩ := prt9 h5 hW hU
  refine tame_of (by omega) (by omega) (by omega) (by omega) (by omega) (k1.mul cd16) (k2.mul cd16) (k3.mul cd16) (k4.mul cd16) (k5.mul cd16) (by omega) (by omega) (by omega) (by omega) (by omega) ?_
  exact Nat.lt_of_le_of_lt (mul5_le (Nat.mul_le_mul_right 6 q1) (Nat.mul_le_mul_right 6 q2) (Nat.mul_le_mul_right 6 q3) (Nat.mul_le_mul_right 6 q4) (Nat.mul_le_mul_right 6 q5)) (by decide)
theorem great_cd {o : Rat} (h : Prt 4 7 o) : ∃ u, 0 < u ∧ u ≤ 7 ∧ Cd u 6 (2 + o) := by
  obtain ⟨u, p, q, k⟩ := h.cd
  exact ⟨u, p, q, ((Cd.int 2 (B := 2) (by decide)).up ⟨u, by omega⟩ (Nat.le_refl _) : Cd u 2 ((2 : Int) : Rat)).add k⟩
theorem tame5 {W U : Nat} {a b e o : Rat} (hW : W ≤ 9) (hU : U ≤ 9) (h1 : Prt W U a) (h2 : Prt W U b) (h5 : Prt W U e) (ho : Prt 4 7 o) : TameN (2 ^ 48) ⟨a * r15, b * r15, 0, 2 + o, e * r15⟩ := by
  obtain ⟨u1, p1, q1, k1⟩ := prt9 h1 hW hU
  obtain ⟨u2, p2, q2, k2⟩ := prt9 h2 hW hU
  obtain ⟨u5, p5, q5, k5⟩ := prt9 h5 hW hU
  obtain ⟨u4, p4, q4, k4⟩ := great_cd ho
  refine tame_of (by omega) (by omega) Nat.one_pos p4 (by omega) (k1.mul cd15) (k2.mul cd15) cd_zero k4 (k5.mul cd15) (by omega) (by omega) (by omega) (by omega) (by omega) ?_
  exact Nat.lt_of_le_of_lt (mul5_le (Nat.mul_le_mul_right 5 q1) (Nat.mul_le_mul_right 5 q2) (Nat.le_refl 1) q4 (Nat.mul_le_mul_right 5 q5)) (by decide)
theorem tame6 {W U : Nat} {a c d e o : Rat} (hW : W ≤ 9) (hU : U ≤ 9) (h1 : Prt W U a) (h3 : Prt W U c) (h4 : Prt W U d) (h5 : Prt W U e) (ho : Prt 4 7 o) : TameN (2 ^ 48) ⟨a * r15, 2 + o, c, d * r19, e * r19⟩ := by
  obtain ⟨u1, p1, q1, k1⟩ := prt9 h1 hW hU
  obtain ⟨u3, p3, q3, k3⟩ := prt9 h3 hW hU
  obtain ⟨u4, p4, q4, k4⟩ := prt9 h4 hW hU
  obtain ⟨u5, p5, q5, k5⟩ := prt9 h5 hW hU
  obtain ⟨u2, p2, q2, k2⟩ := great_cd ho
  refine tame_of (by omega) p2 p3 (by omega) (by omega) (k1.mul cd15) k2 k3 (k4.mul cd19) (k5.mul cd19) (by omega) (by omega) (by omega) (by omega) (by omega) ?_
  exact Nat.lt_of_le_of_lt (mul5_le (Nat.mul_le_mul_right 5 q1) q2 q3 (Nat.mul_le_mul_right 9 q4) (Nat.mul_le_mul_right 9 q5)) (by decide)
theorem tame3 {W U : Nat} {g : Fv} {b c : Rat} (hW : W ≤ 9) (hU : U ≤ 9) (h : TameN (2 ^ 40) g) (h2 : Prt W U b) (h3 : Prt W U c) : TameN (2 ^ 48) ⟨g.a, b, c, g.d, g.e⟩ := by
  obtain ⟨N, n0, n1, ha, _, _, hd, he⟩ := h
  obtain ⟨u2, p2, q2, k2⟩ := prt9 h2 hW hU
  obtain ⟨u3, p3, q3, k3⟩ := prt9 h3 hW hU
  have hu : u2 * u3 ≤ 81 := Nat.mul_le_mul q2 q3
  have hp : 0 < u2 * u3 := Nat.mul_pos p2 p3
  have up : ∀ {x : Rat}, Cd N 32 x → Cd (N * (u2 * u3)) 32 x := fun k => k.up ⟨u2 * u3, rfl⟩ (Nat.le_refl _)
  refine ⟨N * (u2 * u3), Nat.mul_pos n0 hp, ?_, up ha, k2.up ⟨N * u3, by grind⟩ (by omega), k3.up ⟨N * u2, by grind⟩ (by omega), up hd, up he⟩
  have := Nat.mul_le_mul (Nat.le_of_lt n1) hu
  exact Nat.lt_of_le_of_lt this (by decide)
theorem tame_flat {a r : Rat} {h : Rat × Rat} (ha : Prt 2 9 a) (hr : Prt 9 9 r) (u : UnitH h) :
    TameN (2 ^ 40) ⟨a, r * h.1, r * h.2, (h.1 * h.1 - h.2 * h.2) + a * (h.2 * h.1 + h.1 * h.2), (h.2 * h.1 + h.1 * h.2) - a * (h.1 * h.1 - h.2 * h.2)⟩ := by
  obtain ⟨ua, pa, qa, ka⟩ := ha.cd
  obtain ⟨ur, pr, qr, kr⟩ := hr.cd
  obtain ⟨_, D, d0, d1, kc, ks⟩ := u
  have pD : 0 < D * D := Nat.mul_pos d0 d0
  have hD : D * D ≤ 19602 * 19602 := Nat.mul_le_mul d1 d1
  have k1 : Cd (D * D) (1 * 1 + 1 * 1) (h.1 * h.1 - h.2 * h.2) := (kc.mul kc).sub (ks.mul ks)
  have k2 : Cd (D * D) (1 * 1 + 1 * 1) (h.2 * h.1 + h.1 * h.2) := (ks.mul kc).add (kc.mul ks)
  have dv : ua * (D * D) ∣ ua * ur * (D * D) := ⟨ur, by grind⟩
  have dv2 : D * D ∣ ua * ur * (D * D) := ⟨ua * ur, by grind⟩
  have dv3 : ur * D ∣ ua * ur * (D * D) := ⟨ua * D, by grind⟩
  refine ⟨ua * ur * (D * D), Nat.mul_pos (Nat.mul_pos pa pr) pD, ?_, ka.up ⟨ur * (D * D), by grind⟩ (by decide), (kr.mul kc).up dv3 (by decide), (kr.mul ks).up dv3 (by decide), ((k1.up dv2 (Nat.le_refl _)).add ((ka.mul k2).up dv (Nat.le_refl _))).up (Nat.dvd_refl _) (by decide), ((k2.up dv2 (Nat.le_refl _)).sub ((ka.mul k1).up dv (Nat.le_refl _))).up (Nat.dvd_refl _) (by decide)⟩
  have := Nat.mul_le_mul (Nat.mul_le_mul qa qr) hD
  exact Nat.lt_of_le_of_lt this (by decide)
theorem tame_dead {a d e : Rat} {h : Rat × Rat} (ha : Prt 3 7 a) (hd : Prt 3 7 d) (he : Prt 3 7 e) (u : UnitH h) :
    TameN (2 ^ 40) ⟨a, -(0 + 0 + ((1 + d) * h.1) + ((a - e) * h.2)), -(0 + 0 + ((a + e) * h.1) + ((d - 1) * h.2)), d, e⟩ := by
  obtain ⟨ua, pa, qa, ka⟩ := ha.cd
  obtain ⟨ud, pd, qd, kd⟩ := hd.cd
  obtain ⟨ue, pe, qe, ke⟩ := he.cd
  obtain ⟨_, D, d0, d1, kc, ks⟩ := u
  have hN : 0 < ua * ud * ue * D := Nat.mul_pos (Nat.mul_pos (Nat.mul_pos pa pd) pe) d0
  have z : Cd (ua * ud * ue * D) 0 (0 : Rat) := cd_zero.up ⟨_, (Nat.one_mul _).symm⟩ (Nat.le_refl _)
  have va : ua ∣ ua * ud * ue := ⟨ud * ue, by grind⟩
  have vd : ud ∣ ua * ud * ue := ⟨ua * ue, by grind⟩
  have ve : ue ∣ ua * ud * ue := ⟨ua * ud, by grind⟩
  have h0 : 0 < ua * ud * ue := Nat.mul_pos (Nat.mul_pos pa pd) pe
  have a' := ka.up va (Nat.le_refl _)
  have d' := kd.up vd (Nat.le_refl _)
  have e' := ke.up ve (Nat.le_refl _)
  have i' := cd_one _ h0
  have k1 := (((z.add z).add ((i'.add d').mul kc)).add ((a'.sub e').mul ks)).neg
  have k2 := (((z.add z).add ((a'.add e').mul kc)).add ((d'.sub i').mul ks)).neg
  refine ⟨ua * ud * ue * D, hN, ?_, ka.up ⟨ud * ue * D, by grind⟩ (by decide), k1.up (Nat.dvd_refl _) (by decide), k2.up (Nat.dvd_refl _) (by decide), kd.up ⟨ua * ue * D, by grind⟩ (by decide), ke.up ⟨ua * ud * D, by grind⟩ (by decide)⟩
  have := Nat.mul_le_mul (Nat.mul_le_mul (Nat.mul_le_mul qa qd) qe) d1
  exact Nat.lt_of_le_of_lt this (by decide)
theorem prt_bd {W U : Nat} {q : Rat} (h : Prt W U q) (hW : W < 128) (hU : U < 128) : Bd 7 q := by
  obtain ⟨z, u, u0, u1, z1, e⟩ := h
  have hu : (0 : Int) < (u : Int) := by omega
  have hn : ((u : Int) : Rat) ≠ 0 := fun q => by
    have : ((u : Int) : Rat) = ((0 : Int) : Rat) := q
    have := Rat.intCast_inj.mp this
    omega
  have eq : q = (z : Rat) / ((u : Int) : Rat) := by
    rw [← e, Rat.intCast_natCast] at *
    grind
  rw [eq]
  exact bd_div hu (by omega) (by omega)
end K30M

/-! text: KDraw -/
set_option Elab.async false
set_option linter.all false
set_option maxRecDepth 100000
set_option maxHeartbeats 4000000
namespace K30
open PySem PySem.Spec PyProof.Rows L2 K30M
section
variable {P : Program} {w : World} {K : PySem.W.Frag} {mg : Str → Option Value} {base : Heap}
theorem p64 : (2 : Int) ^ 64 = 18446744073709551616 := by decide
theorem mul_r {i j : Int} (h1 : -1000000 < j) (h2 : j < 1000000) : CMul i j := .inr ⟨by rw [p64]; omega, by rw [p64]; omega⟩
theorem mul_l {i j : Int} (h1 : -1000000 < i) (h2 : i < 1000000) : CMul i j := .inl ⟨by rw [p64]; omega, by rw [p64]; omega⟩
/-! law_deal -/
def sp_law_deal (K : PySem.W.Frag) : Sp := fun vs H Q _ => ∃ (a : Addr) (m : Int), (0 < m ∧ m < 1073741824) ∧ Lode a H ∧ AllP [pV (.ref a), pV (.int m)] vs H ∧ ∀ v H', Up (some a) H H' → (pI fun d => 0 ≤ d ∧ d < m : Pd) v H' → Q v H'
theorem len_law_deal {vs : List V} {H : Hp} {Q : VK} {E : XK} (h : sp_law_deal K vs H Q E) : vs.length = 2 := by
  obtain ⟨_, _, _, _, pp, _⟩ := h
  exact AllP.len pp
theorem e_law_deal {a : Addr} {Γ : Ga} {t0 t1 : TE} {m : Int} (h0 : EvG (some a) t0 Γ (pV (.ref a))) (h1 : EvG (some a) t1 Γ (pV (.int m))) (hc : 0 < m ∧ m < 1073741824) : EvG (some a) (tCall (sp_law_deal K) [] E0 (tCons t0 (tCons t1 tNil))) Γ (pI fun d => 0 ≤ d ∧ d < m) := e_callL (fun _ _ _ lo pp kk => ⟨a, m, hc, lo, pp, kk⟩) (a_cons h0 (a_cons h1 a_nil))
theorem sc_law_deal : FnScope ["_law_lode_here", "_law_many", "_law_digit", "_law_factor"] ["_law_lode_here", "_law_many"] (defScope s_law_deal) := ⟨rfl, rfl, rfl, by decide +kernel, rfl, by decide +kernel, by decide +kernel⟩
theorem ok_law_deal (T : Txt K mg) : Fn P w K mg base 1 "_law_deal" ["_law_lode_here", "_law_many"] (sp_law_deal K) := by
  refine fn_mk T 52 50 rfl rfl sc_law_deal (fun vs H Q E h => len_law_deal h) (fun _ _ _ _ _ _ us hl => match us, hl with | [_, _], _ => rfl) (fun f cdv A outer s H vs Q E hr h => ?_)
  obtain ⟨a, m, hc, lo, hp, k⟩ := h
  refine ⟨_, (pss_cons (ps_if (pt_cmpR op_gt (pe_ix ix_list (pv 0) pe_int (fun _ _ => rfl)) pe_int (nomark _)) (pss_cons (ps_asg (pe_callB call_divmodW rfl (T.free 102 rfl) (by decide +kernel) (pa_cons (pe_ix ix_list (pv 0) pe_int (fun _ _ => rfl)) (pa_cons (pv 1) pa_nil))) (pg_tup rfl (pgs_cons (pg_sub (pv 0) pe_int set_list) (pgs_cons (pg_name (i := 2) sc_law_deal.nd rfl (by first | exact Or.inl rfl | exact Or.inr rfl)) pgs_nil))))
      (pss_one (ps_ret (pv 2)))) pss_nil)
      (pss_cons (ps_asg (pe_op op_add (pe_ix ix_list (pv 0) pe_int (fun _ _ => rfl)) pe_int) (pg_sub (pv 0) pe_int set_list))
      (pss_cons (ps_set (i := 3) sc_law_deal.nd rfl (Or.inl rfl) (pe_op op_add (pe_op op_mod (pe_callTy call_int1 rfl (T.free 103 rfl) (by decide +kernel) (pa_cons (pe_ix ix_list (pv 0) pe_int (fun _ _ => rfl)) pa_nil)) pe_int) pe_int))
      (pss_cons (ps_asg (pe_op op_mod (pe_callTy call_int1 rfl (T.free 103 rfl) (by decide +kernel) (pa_cons (pe_op op_add (pe_op op_add (pe_op op_mul (pe_ix ix_list (pv 0) pe_int (fun _ _ => rfl)) (pv 3)) (pe_op op_mul pe_int (pe_ix ix_list (pv 0) pe_int (fun _ _ => rfl)))) pe_int) pa_nil)) pe_int) (pg_sub (pv 0) pe_int set_list))
      (pss_one (ps_ret (pe_op op_mod (pe_callTy call_int1 rfl (T.free 103 rfl) (by decide +kernel) (pa_cons (pe_op op_fdiv (pe_ix ix_list (pv 0) pe_int (fun _ _ => rfl)) pe_int) pa_nil)) (pv 1)))))))), ?_⟩
  refine (?_ : Run (some a) H _ _ ([some (pV (.ref a)), some (pV (.int m)), none, none] : Ga)) _ H (Up.refl (l := some a) lo) (fits0 (l := some a) hp lo rfl)
  refine r_ifB (b_I (e_lode 0 rfl (by decide)) (e_pi (C := fun _ => True) e_c trivial)) ?_ ?_
  · exact r_divLode rfl (e_divmod rfl (e_lode 0 rfl (by decide)) (e_var rfl) hc.1 hc.2) (r_doneL (e_var rfl) k)
  · refine r_next0 (r_setLode 2 rfl (by decide) (x_I0 (e_lode 2 rfl (by decide)) (e_pi (C := fun _ => True) e_c trivial) fun _ _ _ _ => trivial) ?_)
    refine r_set (P := pI fun z => 23003 ≤ z ∧ z < 40014) (x_I0 (C := fun z => 0 ≤ z ∧ z < 17011) (C' := fun z => z = 23003) (x_IX (C := fun _ => True) (C' := fun z => z = 17011) (x_int1 (e_lode 1 rfl (by decide))) (e_pi e_c rfl) (fun _ n _ h => by rw [h]; decide) fun m n _ h => by rw [h]; omega) (e_pi e_c rfl) fun m n h1 h2 => by omega) ?_
    refine r_setLode 1 rfl (by decide) (x_IX (C := fun _ => True) (C' := fun z => z = 2147483477) (x_int1 (x_I0 (C := fun _ => True) (C' := fun _ => True) (x_I0 (C := fun _ => True) (C' := fun _ => True) (x_IX (C := fun _ => True) (C' := fun z => 23003 ≤ z ∧ z < 40014) (e_lode 1 rfl (by decide)) (e_var rfl) (fun m n _ h => mul_r (by omega) (by omega)) fun _ _ _ _ => trivial) (x_IX (C := fun z => z = 60013) (C' := fun _ => True) (e_pi e_c rfl) (e_lode 2 rfl (by decide)) (fun m n h _ => mul_l (by omega) (by omega)) fun _ _ _ _ => trivial) fun _ _ _ _ => trivial) (e_pi e_c trivial) fun _ _ _ _ => trivial)) (e_pi e_c rfl) (fun _ n _ h => by rw [h]; decide) fun _ _ _ _ => trivial) ?_
    exact r_doneL (x_IX (C := fun _ => True) (C' := fun z => z = m) (x_int1 (x_IX (C := fun _ => True) (C' := fun z => z = 89) (e_lode 1 rfl (by decide)) (e_pi e_c rfl) (fun _ n _ h => ⟨by omega, by omega⟩) fun _ _ _ _ => trivial)) (e_pi (e_var rfl) rfl) (fun _ n _ h => by omega) fun x n _ h => by rw [h]; exact ⟨Int.emod_nonneg _ (by omega), Int.emod_lt_of_pos _ hc.1⟩) k
/-- dealt among an unknown number -/
theorem e_dealI {a : Addr} {Γ : Ga} {t0 t1 : TE} {C Cr : Int → Prop} (h0 : EvG (some a) t0 Γ (pV (.ref a))) (h1 : EvG (some a) t1 Γ (pI C)) (hc : ∀ m, C m → 0 < m ∧ m < 1073741824) (hr : ∀ m d, C m → 0 ≤ d → d < m → Cr d) : EvG (some a) (tCall (sp_law_deal K) [] E0 (tCons t0 (tCons t1 tNil))) Γ (pI Cr) :=
  e_callL (Ps := [pV (.ref a), pI C]) (fun vs H Q lo pp kk => by
    obtain ⟨x, y, rfl, e1, m, c, e2⟩ := AllP.two pp
    exact ⟨a, m, hc m c, lo, ⟨e1, e2, trivial⟩, fun v H' u ⟨d, hd, e⟩ => kk v H' u ⟨d, hr m d c hd.1 hd.2, e⟩⟩) (a_cons h0 (a_cons h1 a_nil))
/-! law_some -/
def sp_law_some (K : PySem.W.Frag) : Sp := fun vs H Q _ => ∃ (a : Addr) (Ps : List Pd) (R : Pd), ((0 < Ps.length ∧ Ps.length ≤ 1000 ∧ MoL (some a) Ps ∧ Mo (some a) R) ∧ ∀ P ∈ Ps, ∀ v H, P v H → R v H) ∧ Lode a H ∧ AllP [pV (.ref a), pLg (some a) K Ps] vs H ∧ ∀ v H', Up (some a) H H' → (R : Pd) v H' → Q v H'
theorem len_law_some {vs : List V} {H : Hp} {Q : VK} {E : XK} (h : sp_law_some K vs H Q E) : vs.length = 2 := by
  obtain ⟨_, _, _, _, _, pp, _⟩ := h
  exact AllP.len pp
theorem sc_law_some : FnScope ["_law_lode_here", "_law_some_here"] ["_law_lode_here", "_law_some_here"] (defScope s_law_some) := ⟨rfl, rfl, rfl, by decide +kernel, rfl, by decide +kernel, by decide +kernel⟩
theorem ok_law_some (T : Txt K mg) : Fn P w K mg base 2 "_law_some" ["_law_lode_here", "_law_some_here"] (sp_law_some K) := by
  refine fn_mk T 53 51 rfl rfl sc_law_some (fun vs H Q E h => len_law_some h) (fun _ _ _ _ _ _ us hl => match us, hl with | [_, _], _ => rfl) (fun f cdv A outer s H vs Q E hr h => ?_)
  obtain ⟨a, Ps, R, hc, lo, hp, k⟩ := h
  obtain ⟨⟨hn, hs, _, _⟩, hw⟩ := hc
  refine ⟨_, (pss_one (ps_ret (pe_ix ix_list (pv 1) (pe_fn (ok_law_deal T) (hr.mono (by decide)) (pa_cons (pv 0) (pa_cons (pe_callB call_len_seq rfl (T.free 105 rfl) (by decide +kernel) (pa_cons (pv 1) pa_nil)) pa_nil))) (fun _ _ => rfl)))), ?_⟩
  refine (?_ : Run (some a) H _ _ ([some (pV (.ref a)), some (pLg (some a) K Ps)] : Ga)) _ H (Up.refl (l := some a) lo) (fits0 (l := some a) hp lo rfl)
  exact r_doneL (x_ixL (e_var rfl) (e_law_deal (e_var rfl) (e_lenLg (e_var rfl)) ⟨by omega, by omega⟩) hw) k
theorem e_law_some {a : Addr} {Γ : Ga} {t0 t1 : TE} {Ps : List Pd} {R : Pd} [m1 : MoL (some a) Ps] [m2 : Mo (some a) R] (h0 : EvG (some a) t0 Γ (pV (.ref a))) (h1 : EvG (some a) t1 Γ (pLg (some a) K Ps)) (hn : 0 < Ps.length) (hs : Ps.length ≤ 1000) (hw : ∀ P ∈ Ps, ∀ v H, P v H → R v H) : EvG (some a) (tCall (sp_law_some K) [] E0 (tCons t0 (tCons t1 tNil))) Γ R :=
  e_callL (fun _ _ _ lo pp kk => ⟨a, Ps, R, ⟨⟨hn, hs, m1, m2⟩, hw⟩, lo, pp, kk⟩) (a_cons h0 (a_cons h1 a_nil))
theorem e_some_i {a : Addr} {Γ : Ga} {t0 : TE} {t1 : TA} {ns : List Int} {C : Int → Prop} (h0 : EvG (some a) t0 Γ (pV (.ref a))) (h1 : EvA (some a) t1 Γ (ns.map fun n => pV (.int n))) (hn : 0 < ns.length) (hs : ns.length ≤ 1000) (hw : ∀ n ∈ ns, C n) : EvG (some a) (tCall (sp_law_some K) [] E0 (tCons t0 (tCons (tLst t1) tNil))) Γ (pI C) :=
  e_law_some (K := K) h0 (e_lst (n_lst h1 (by rw [List.length_map]; exact hs))) (by rw [List.length_map]; exact hn) (by rw [List.length_map]; exact hs) fun P hP v H p => by
    obtain ⟨n, hm, rfl⟩ := List.mem_map.mp hP
    exact ⟨n, hw n hm, p⟩
theorem e_pow {l : Option Addr} {Γ : Ga} {ta tb : TE} {m n r : Int} (ha : EvG l ta Γ (pV (.int m))) (hb : EvG l tb Γ (pV (.int n))) (h : 0 ≤ n ∧ n ≤ 1000000 ∧ m.natAbs < 2 ^ 64) (e : m ^ n.toNat = r) : EvG l (tOp (rI CPow fun i j => .int (i ^ j.toNat)) ta tb) Γ (pV (.int r)) := e_int (e_I (g := fun i j => V.int (i ^ j.toNat)) h ha hb) e
/-! law_about -/
def sp_law_about (K : PySem.W.Frag) : Sp := fun vs H Q _ => ∃ (a : Addr) (wd : Int), (0 ≤ wd ∧ wd < 1000) ∧ Lode a H ∧ AllP [pV (.ref a), pV (.int wd)] vs H ∧ ∀ v H', Up (some a) H H' → (pI fun z => -wd ≤ z ∧ z ≤ wd : Pd) v H' → Q v H'
theorem len_law_about {vs : List V} {H : Hp} {Q : VK} {E : XK} (h : sp_law_about K vs H Q E) : vs.length = 2 := by
  obtain ⟨_, _, _, _, pp, _⟩ := h
  exact AllP.len pp
theorem e_law_about {a : Addr} {Γ : Ga} {t0 t1 : TE} {wd : Int} (h0 : EvG (some a) t0 Γ (pV (.ref a))) (h1 : EvG (some a) t1 Γ (pV (.int wd))) (hc : 0 ≤ wd ∧ wd < 1000) : EvG (some a) (tCall (sp_law_about K) [] E0 (tCons t0 (tCons t1 tNil))) Γ (pI fun z => -wd ≤ z ∧ z ≤ wd) := e_callL (fun _ _ _ lo pp kk => ⟨a, wd, hc, lo, pp, kk⟩) (a_cons h0 (a_cons h1 a_nil))
theorem sc_law_about : FnScope ["_law_lode_here", "_law_wide", "_law_high"] ["_law_lode_here", "_law_wide"] (defScope s_law_about) := ⟨rfl, rfl, rfl, by decide +kernel, rfl, by decide +kernel, by decide +kernel⟩
theorem ok_law_about (T : Txt K mg) : Fn P w K mg base 2 "_law_about" ["_law_lode_here", "_law_wide"] (sp_law_about K) := by
  refine fn_mk T 54 52 rfl rfl sc_law_about (fun vs H Q E h => len_law_about h) (fun _ _ _ _ _ _ us hl => match us, hl with | [_, _], _ => rfl) (fun f cdv A outer s H vs Q E hr h => ?_)
  obtain ⟨a, wd, hc, lo, hp, k⟩ := h
  refine ⟨_, (pss_cons (ps_if (pt_cmpR op_lt (pv 1) (pe_op op_pow pe_int pe_int) (nomark _)) (pss_one (ps_ret (pe_op op_sub (pe_fn (ok_law_deal T) (hr.mono (by decide)) (pa_cons (pv 0) (pa_cons (pe_op op_add (pe_op op_mul pe_int (pv 1)) pe_int) pa_nil))) (pv 1)))) pss_nil)
      (pss_cons ps_never
      (pss_one ps_never))), ?_⟩
  refine (?_ : Run (some a) H _ _ ([some (pV (.ref a)), some (pV (.int wd)), none] : Ga)) _ H (Up.refl (l := some a) lo) (fits0 (l := some a) hp lo rfl)
  refine r_if (b := true) (t_is (t_of (e_I0 (e_var rfl) (e_pow e_c e_c (by decide) (r := 100000) (by decide)))) (decide_eq_true (by omega))) (fun _ => ?_) fun z => by cases z
  exact r_doneL (x_I0 (C := fun z => 0 ≤ z ∧ z < 2 * wd + 1) (C' := fun z => z = wd) (e_law_deal (e_var rfl) (e_I0 (e_I (mul_l (by omega) (by omega)) e_c (e_var rfl)) e_c) ⟨by omega, by omega⟩) (e_pi (e_var rfl) rfl) fun m n h1 h2 => by omega) k
/-- a drawn fraction from its two numbers -/
theorem e_partI {l : Option Addr} {Γ : Ga} {t0 t1 : TE} {W U : Nat} (h0 : EvG l t0 Γ (pI fun z => z.natAbs ≤ W)) (h1 : EvG l t1 Γ (pI fun z => 1 ≤ z ∧ z ≤ (U : Int))) (hW : W < 128) (hU : U < 128) : EvG l (tCall (sp_law_part K) [] E0 (tCons t0 (tCons t1 tNil))) Γ (pPr K W U) :=
  e_call (Ps := [pI fun z => z.natAbs ≤ W, pI fun z => 1 ≤ z ∧ z ≤ (U : Int)]) (fun vs H Q pp kk => by
    obtain ⟨x, y, rfl, ⟨n, hn, e1⟩, u, ⟨hu1, hu2⟩, e2⟩ := AllP.two pp
    exact ⟨n, u, 7, ⟨by omega, by omega, by omega, by omega⟩, ⟨e1, e2, trivial⟩, fun v H' s p => kk v H' s ⟨_, prt_div hn (by omega) (by omega), p⟩⟩) (a_cons h0 (a_cons h1 a_nil))
/-! law_any_part -/
def sp_law_any_part (K : PySem.W.Frag) : Sp := fun vs H Q _ => ∃ (a : Addr) (wd : Int) (W U : Nat), (1 ≤ wd ∧ wd ≤ (W : Int) ∧ wd ≤ (U : Int) ∧ 7 ≤ U ∧ W < 128 ∧ U < 128) ∧ Lode a H ∧ AllP [pV (.ref a), pV (.int wd)] vs H ∧ ∀ v H', Up (some a) H H' → (pPr K W U : Pd) v H' → Q v H'
theorem len_law_any_part {vs : List V} {H : Hp} {Q : VK} {E : XK} (h : sp_law_any_part K vs H Q E) : vs.length = 2 := by
  obtain ⟨_, _, _, _, _, _, pp, _⟩ := h
  exact AllP.len pp
theorem e_law_any_part {a : Addr} {Γ : Ga} {t0 t1 : TE} {wd : Int} {W U : Nat} (h0 : EvG (some a) t0 Γ (pV (.ref a))) (h1 : EvG (some a) t1 Γ (pV (.int wd))) (hc : 1 ≤ wd ∧ wd ≤ (W : Int) ∧ wd ≤ (U : Int) ∧ 7 ≤ U ∧ W < 128 ∧ U < 128) : EvG (some a) (tCall (sp_law_any_part K) [] E0 (tCons t0 (tCons t1 tNil))) Γ (pPr K W U) := e_callL (fun _ _ _ lo pp kk => ⟨a, wd, W, U, hc, lo, pp, kk⟩) (a_cons h0 (a_cons h1 a_nil))
theorem sc_law_any_part : FnScope ["_law_lode_here", "_law_wide"] ["_law_lode_here", "_law_wide"] (defScope s_law_any_part) := ⟨rfl, rfl, rfl, by decide +kernel, rfl, by decide +kernel, by decide +kernel⟩
theorem ok_law_any_part (T : Txt K mg) : Fn P w K mg base 4 "_law_any_part" ["_law_lode_here", "_law_wide"] (sp_law_any_part K) := by
  refine fn_mk T 64 62 rfl rfl sc_law_any_part (fun vs H Q E h => len_law_any_part h) (fun _ _ _ _ _ _ us hl => match us, hl with | [_, _], _ => rfl) (fun f cdv A outer s H vs Q E hr h => ?_)
  obtain ⟨a, wd, W, U, hc, lo, hp, k⟩ := h
  refine ⟨_, (pss_one (ps_ret (pe_fn (ok_law_part T) (hr.mono (by decide)) (pa_cons (pe_fn (ok_law_about T) (hr.mono (by decide)) (pa_cons (pv 0) (pa_cons (pv 1) pa_nil))) (pa_cons (pe_op op_add pe_int (pe_fn (ok_law_deal T) (hr.mono (by decide)) (pa_cons (pv 0) (pa_cons (pe_fn (ok_law_some T) (hr.mono (by decide)) (pa_cons (pv 0) (pa_cons (pe_lst (pa_cons pe_int (pa_cons pe_int (pa_cons pe_int (pa_cons pe_int (pa_cons pe_int (pa_cons (pe_callB (call_min2 rfl) rfl (T.free 107 rfl) (by decide +kernel) (pa_cons (pv 1) (pa_cons (pe_op op_pow pe_int pe_int) pa_nil))) pa_nil))))))) pa_nil))) pa_nil)))) pa_nil))))), ?_⟩
  refine (?_ : Run (some a) H _ _ ([some (pV (.ref a)), some (pV (.int wd))] : Ga)) _ H (Up.refl (l := some a) lo) (fits0 (l := some a) hp lo rfl)
  refine r_doneL (e_partI (i_imp (e_law_about (e_var rfl) (e_var rfl) ⟨by omega, by omega⟩) fun m h => by omega) (x_I0 (C := fun z => z = 1) (C' := fun z => 0 ≤ z ∧ z < (U : Int)) (e_pi e_c rfl)
    (e_dealI (C := fun z => 1 ≤ z ∧ z ≤ (U : Int)) (e_var rfl) (e_some_i (K := K) (ns := [1, 1, 2, 3, 7, wd]) (e_var rfl) (a_cons e_c (a_cons e_c (a_cons e_c (a_cons e_c (a_cons e_c (a_cons (e_int (e_min (e_var rfl) (e_pow e_c e_c (by decide) (r := 10000) (by decide))) (if_neg (by omega))) a_nil)))))) (by simp) (by simp) ?_) (fun m h => by omega) fun m d h h2 h3 => by omega) fun m n h1 h2 => by omega) (by omega) (by omega)) k
  intro n hn
  simp only [List.mem_cons, List.mem_nil_iff, or_false] at hn
  rcases hn with h | h | h | h | h | h <;> omega
/-! law_over -/
def sp_law_over (K : PySem.W.Frag) : Sp := fun vs H Q _ => ∃ (a : Addr) , (True) ∧ Lode a H ∧ AllP [pV (.ref a), pV (.int 3)] vs H ∧ ∀ v H', Up (some a) H H' → (pPr K 4 7 : Pd) v H' → Q v H'
theorem len_law_over {vs : List V} {H : Hp} {Q : VK} {E : XK} (h : sp_law_over K vs H Q E) : vs.length = 2 := by
  obtain ⟨_, _, _, pp, _⟩ := h
  exact AllP.len pp
theorem e_law_over {a : Addr} {Γ : Ga} {t0 t1 : TE}  (h0 : EvG (some a) t0 Γ (pV (.ref a))) (h1 : EvG (some a) t1 Γ (pV (.int 3))) : EvG (some a) (tCall (sp_law_over K) [] E0 (tCons t0 (tCons t1 tNil))) Γ (pPr K 4 7) := e_callL (fun _ _ _ lo pp kk => ⟨a, trivial, lo, pp, kk⟩) (a_cons h0 (a_cons h1 a_nil))
theorem sc_law_over : FnScope ["_law_lode_here", "_law_wide"] ["_law_lode_here", "_law_wide"] (defScope s_law_over) := ⟨rfl, rfl, rfl, by decide +kernel, rfl, by decide +kernel, by decide +kernel⟩
theorem ok_law_over (T : Txt K mg) : Fn P w K mg base 4 "_law_over" ["_law_lode_here", "_law_wide"] (sp_law_over K) := by
  refine fn_mk T 65 63 rfl rfl sc_law_over (fun vs H Q E h => len_law_over h) (fun _ _ _ _ _ _ us hl => match us, hl with | [_, _], _ => rfl) (fun f cdv A outer s H vs Q E hr h => ?_)
  obtain ⟨a, hc, lo, hp, k⟩ := h
  refine ⟨_, (pss_one (ps_ret (pe_fn (ok_law_part T) (hr.mono (by decide)) (pa_cons (pe_op op_add pe_int (pe_callB call_abs rfl (T.free 99 rfl) (by decide +kernel) (pa_cons (pe_fn (ok_law_about T) (hr.mono (by decide)) (pa_cons (pv 0) (pa_cons (pv 1) pa_nil))) pa_nil))) (pa_cons (pe_op op_add pe_int (pe_fn (ok_law_deal T) (hr.mono (by decide)) (pa_cons (pv 0) (pa_cons (pe_fn (ok_law_some T) (hr.mono (by decide)) (pa_cons (pv 0) (pa_cons (pe_lst (pa_cons pe_int (pa_cons pe_int (pa_cons pe_int (pa_cons pe_int (pa_cons pe_int pa_nil)))))) pa_nil))) pa_nil)))) pa_nil))))), ?_⟩
  refine (?_ : Run (some a) H _ _ ([some (pV (.ref a)), some (pV (.int 3))] : Ga)) _ H (Up.refl (l := some a) lo) (fits0 (l := some a) hp lo rfl)
  exact r_doneL (e_partI (x_I0 (C := fun z => z = 1) (C' := fun z => 0 ≤ z ∧ z ≤ 3) (e_pi e_c rfl) (x_abs (C := fun z => -3 ≤ z ∧ z ≤ 3) (e_law_about (e_var rfl) (e_var rfl) ⟨by omega, by omega⟩) fun m h => by omega) fun m n h1 h2 => by omega) (x_I0 (C := fun z => z = 1) (C' := fun z => 0 ≤ z ∧ z < 7) (e_pi e_c rfl)
    (e_dealI (C := fun z => 1 ≤ z ∧ z ≤ 7) (e_var rfl) (e_some_i (K := K) (ns := [1, 1, 2, 3, 7]) (e_var rfl) (a_cons e_c (a_cons e_c (a_cons e_c (a_cons e_c (a_cons e_c a_nil))))) (by simp) (by simp) (by decide)) (fun m h => by omega) fun m d h h2 h3 => by omega) fun m n h1 h2 => by omega) (by omega) (by omega)) k
abbrev pHalf (K : PySem.W.Frag) : Pd := pX (fun o : Option Rat => ∀ q, o = some q → Prt 99 99 q) (pH K)
theorem half_of {K : PySem.W.Frag} {W U n : Nat} {q : Rat} {v : V} {H : Hp} (h : Prt W U q) (hW : W ≤ 99) (hU : U ≤ 99) (p : pQ K n q v H) : pHalf K v H := ⟨some q, fun r e => by cases e; exact h.mono hW hU, prt_bd h (by omega) (by omega), p.2⟩
/-! law_half -/
def sp_law_half (K : PySem.W.Frag) : Sp := fun vs H Q _ => ∃ (a : Addr) , (True) ∧ Lode a H ∧ AllP [pV (.ref a)] vs H ∧ ∀ v H', Up (some a) H H' → (pHalf K : Pd) v H' → Q v H'
theorem len_law_half {vs : List V} {H : Hp} {Q : VK} {E : XK} (h : sp_law_half K vs H Q E) : vs.length = 1 := by
  obtain ⟨_, _, _, pp, _⟩ := h
  exact AllP.len pp
theorem e_law_half {a : Addr} {Γ : Ga} {t0 : TE}  (h0 : EvG (some a) t0 Γ (pV (.ref a))) : EvG (some a) (tCall (sp_law_half K) [] E0 (tCons t0 tNil)) Γ (pHalf K) := e_callL (fun _ _ _ lo pp kk => ⟨a, trivial, lo, pp, kk⟩) (a_cons h0 a_nil)
theorem sc_law_half : FnScope ["_law_lode_here", "_law_wide"] ["_law_lode_here"] (defScope s_law_half) := ⟨rfl, rfl, rfl, by decide +kernel, rfl, by decide +kernel, by decide +kernel⟩
theorem ok_law_half (T : Txt K mg) : Fn P w K mg base 5 "_law_half" ["_law_lode_here"] (sp_law_half K) := by
  refine fn_mk T 68 66 rfl rfl sc_law_half (fun vs H Q E h => len_law_half h) (fun _ _ _ _ _ _ us hl => match us, hl with | [_], _ => rfl) (fun f cdv A outer s H vs Q E hr h => ?_)
  obtain ⟨a, hc, lo, hp, k⟩ := h
  refine ⟨_, (pss_cons (ps_set (i := 1) sc_law_half.nd rfl (Or.inl rfl) (pe_fn (ok_law_some T) (hr.mono (by decide)) (pa_cons (pv 0) (pa_cons (pe_lst (pa_cons pe_int (pa_cons pe_int (pa_cons pe_int (pa_cons pe_int (pa_cons pe_int pa_nil)))))) pa_nil))))
      (pss_one (ps_ret (pe_ifExp (pt_cmpR op_eq (pe_fn (ok_law_deal T) (hr.mono (by decide)) (pa_cons (pv 0) (pa_cons pe_int pa_nil))) pe_int (nomark _)) (pe_fn (ok_law_some T) (hr.mono (by decide)) (pa_cons (pv 0) (pa_cons (pe_lst (pa_cons pe_non (pa_cons (pe_tup (pa_cons pe_int (pa_cons pe_int pa_nil))) (pa_cons (pe_tup (pa_cons pe_int (pa_cons pe_int pa_nil))) (pa_cons (pe_tup (pa_cons (pe_un un_neg pe_int) (pa_cons pe_int pa_nil))) pa_nil))))) pa_nil))) (pe_fn (ok_law_any_part T) (hr.mono (by decide)) (pa_cons (pv 0) (pa_cons (pv 1) pa_nil))))))), ?_⟩
  refine (?_ : Run (some a) H _ _ ([some (pV (.ref a)), none] : Ga)) _ H (Up.refl (l := some a) lo) (fits0 (l := some a) hp lo rfl)
  refine r_setX (C := fun z : Int => 1 ≤ z ∧ z ≤ 99) (fun x => inferInstance) (e_some_i (K := K) (ns := [1, 2, 3, 9, 99]) (e_var rfl) (a_cons e_c (a_cons e_c (a_cons e_c (a_cons e_c (a_cons e_c a_nil))))) (by simp) (by simp) (by decide)) fun wd hw => ?_
  refine r_doneL (e_ifB (b_eq (e_law_deal (e_var rfl) e_c ⟨by omega, by omega⟩) (e_pi (C := fun _ => True) e_c trivial)) (e_law_some (K := K) (Ps := [pV .non, pQ K 1 0, pQ K 1 1, pQ K 1 (-1)]) (e_var rfl) (e_lst (n_lst (a_cons e_c (a_cons (e_lit (i := 0) (x := 0) (n := 1) (by decide +kernel) (by decide) (by decide)) (a_cons (e_lit (i := 1) (x := 1) (n := 1) (by decide +kernel) (by decide) (by decide)) (a_cons (q_is (e_whole (i := -1) (n := 1) (by decide) (by decide) (e_neg e_c)) (by decide +kernel)) a_nil)))))) (by simp) (by simp) ?_) ((e_law_any_part (W := 99) (U := 99) (e_var rfl) (e_var rfl) ⟨by omega, by omega, by omega, by omega, by omega, by omega⟩).imp fun v H ⟨q, c, p⟩ => half_of c (by omega) (by omega) p)) k
  intro P hP v H p
  simp only [List.mem_cons, List.mem_nil_iff, or_false] at hP
  rcases hP with rfl | rfl | rfl | rfl
  · exact ⟨none, (fun q e => by cases e), p⟩
  · exact half_of (prt_zero (W := 99) (U := 99) (by decide)) (by omega) (by omega) p
  · exact half_of (q := 1) (prt_int (W := 99) (U := 99) 1 (by decide) (by decide)) (by omega) (by omega) p
  · exact half_of (q := -1) (by have := prt_int (W := 99) (U := 99) (-1) (by decide) (by decide); rw [cm1] at this; exact this) (by omega) (by omega) p
theorem e_headX {l : Option Addr} {Γ : Ga} {t0 : TE} (h0 : EvG l t0 Γ (pHalf K)) : EvG l (tCall (sp_law_heading K) [] E0 (tCons t0 tNil)) Γ (pHX K) :=
  e_call (Ps := [pHalf K]) (fun vs H Q pp kk => by
    obtain ⟨x, rfl, o, c, p⟩ := AllP.one pp
    exact ⟨o, c, ⟨p, trivial⟩, kk⟩) (a_cons h0 a_nil)
/-! law_some_heading -/
def sp_law_some_heading (K : PySem.W.Frag) : Sp := fun vs H Q _ => ∃ (a : Addr) , (True) ∧ Lode a H ∧ AllP [pV (.ref a)] vs H ∧ ∀ v H', Up (some a) H H' → (pHX K : Pd) v H' → Q v H'
theorem len_law_some_heading {vs : List V} {H : Hp} {Q : VK} {E : XK} (h : sp_law_some_heading K vs H Q E) : vs.length = 1 := by
  obtain ⟨_, _, _, pp, _⟩ := h
  exact AllP.len pp
theorem e_law_some_heading {a : Addr} {Γ : Ga} {t0 : TE}  (h0 : EvG (some a) t0 Γ (pV (.ref a))) : EvG (some a) (tCall (sp_law_some_heading K) [] E0 (tCons t0 tNil)) Γ (pHX K) := e_callL (fun _ _ _ lo pp kk => ⟨a, trivial, lo, pp, kk⟩) (a_cons h0 a_nil)
theorem sc_law_some_heading : FnScope ["_law_lode_here"] ["_law_lode_here"] (defScope s_law_some_heading) := ⟨rfl, rfl, rfl, by decide +kernel, rfl, by decide +kernel, by decide +kernel⟩
theorem ok_law_some_heading (T : Txt K mg) : Fn P w K mg base 6 "_law_some_heading" ["_law_lode_here"] (sp_law_some_heading K) := by
  refine fn_mk T 69 67 rfl rfl sc_law_some_heading (fun vs H Q E h => len_law_some_heading h) (fun _ _ _ _ _ _ us hl => match us, hl with | [_], _ => rfl) (fun f cdv A outer s H vs Q E hr h => ?_)
  obtain ⟨a, hc, lo, hp, k⟩ := h
  refine ⟨_, (pss_one (ps_ret (pe_fn (ok_law_heading T) (hr.mono (by decide)) (pa_cons (pe_fn (ok_law_half T) (hr.mono (by decide)) (pa_cons (pv 0) pa_nil)) pa_nil)))), ?_⟩
  refine (?_ : Run (some a) H _ _ ([some (pV (.ref a))] : Ga)) _ H (Up.refl (l := some a) lo) (fits0 (l := some a) hp lo rfl)
  exact r_doneL (e_headX (e_law_half (e_var rfl))) k
/-! law_any_five -/
def sp_law_any_five (K : PySem.W.Frag) : Sp := fun vs H Q _ => ∃ (a : Addr) (wd : Int) (W U : Nat), (1 ≤ wd ∧ wd ≤ (W : Int) ∧ wd ≤ (U : Int) ∧ 7 ≤ U ∧ W < 128 ∧ U < 128) ∧ Lode a H ∧ AllP [pV (.ref a), pV (.int wd)] vs H ∧ ∀ v H', Up (some a) H H' → (pT K [pPr K W U, pPr K W U, pPr K W U, pPr K W U, pPr K W U] : Pd) v H' → Q v H'
theorem len_law_any_five {vs : List V} {H : Hp} {Q : VK} {E : XK} (h : sp_law_any_five K vs H Q E) : vs.length = 2 := by
  obtain ⟨_, _, _, _, _, _, pp, _⟩ := h
  exact AllP.len pp
theorem e_law_any_five {a : Addr} {Γ : Ga} {t0 t1 : TE} {wd : Int} {W U : Nat} (h0 : EvG (some a) t0 Γ (pV (.ref a))) (h1 : EvG (some a) t1 Γ (pV (.int wd))) (hc : 1 ≤ wd ∧ wd ≤ (W : Int) ∧ wd ≤ (U : Int) ∧ 7 ≤ U ∧ W < 128 ∧ U < 128) : EvG (some a) (tCall (sp_law_any_five K) [] E0 (tCons t0 (tCons t1 tNil))) Γ (pT K [pPr K W U, pPr K W U, pPr K W U, pPr K W U, pPr K W U]) := e_callL (fun _ _ _ lo pp kk => ⟨a, wd, W, U, hc, lo, pp, kk⟩) (a_cons h0 (a_cons h1 a_nil))
theorem sc_law_any_five : FnScope ["_law_lode_here", "_law_wide", "_law_found", "_law_lap"] ["_law_lode_here", "_law_wide"] (defScope s_law_any_five) := ⟨rfl, rfl, rfl, by decide +kernel, rfl, by decide +kernel, by decide +kernel⟩
theorem ok_law_any_five (T : Txt K mg) : Fn P w K mg base 5 "_law_any_five" ["_law_lode_here", "_law_wide"] (sp_law_any_five K) := by
  refine fn_mk T 71 69 rfl rfl sc_law_any_five (fun vs H Q E h => len_law_any_five h) (fun _ _ _ _ _ _ us hl => match us, hl with | [_, _], _ => rfl) (fun f cdv A outer s H vs Q E hr h => ?_)
  obtain ⟨a, wd, W, U, hc, lo, hp, k⟩ := h
  refine ⟨_, (pss_cons (ps_set (i := 2) sc_law_any_five.nd rfl (Or.inl rfl) (pe_lst pa_nil))
      (pss_cons (ps_for PassesOwn.never rfl (pi_range1 rfl (T.free 108 rfl) (pa_cons pe_int pa_nil)) (pg_name (i := 3) sc_law_any_five.nd rfl (by first | exact Or.inl rfl | exact Or.inr rfl)) (pss_one (ps_expr (pe_bm PySem.F.plainAttrs_list PySem.F.slot_list_append PySem.F.type_list_append mt_append (pv 2) (pa_cons (pe_ifExp (pt_cmpR op_eq (pe_fn (ok_law_deal T) (hr.mono (by decide)) (pa_cons (pv 0) (pa_cons pe_int pa_nil))) pe_int (nomark _)) (pe_tup (pa_cons pe_int (pa_cons pe_int pa_nil))) (pe_fn (ok_law_any_part T) (hr.mono (by decide)) (pa_cons (pv 0) (pa_cons (pv 1) pa_nil)))) pa_nil)))))
      (pss_one (ps_ret (pe_callTy call_tuple_of rfl (T.free 111 rfl) (by decide +kernel) (pa_cons (pv 2) pa_nil)))))), ?_⟩
  refine (?_ : Run (some a) H _ _ ([some (pV (.ref a)), some (pV (.int wd)), none, none] : Ga)) _ H (Up.refl (l := some a) lo) (fits0 (l := some a) hp lo rfl)
  refine r_accR (K := K) (n := 5) (Rs := [pPr K W U, pPr K W U, pPr K W U, pPr K W U, pPr K W U]) inferInstance (fun p => a_cons e_c a_nil) rfl (by simp) (fun kk R hR => ?_) (r_doneL (e_tupLg (K := K) (e_var rfl)) k)
  have eR : R = pPr K W U := by
    match kk, hR with
    | 0, hR => exact (Option.some.inj hR).symm
    | 1, hR => exact (Option.some.inj hR).symm
    | 2, hR => exact (Option.some.inj hR).symm
    | 3, hR => exact (Option.some.inj hR).symm
    | 4, hR => exact (Option.some.inj hR).symm
    | k + 5, hR => simp at hR
  subst eR
  exact turnA1 fun p acc H D' np ea small q => r_app (j := 2) rfl np ea small (by repeat first | exact trivial | refine ⟨rfl, ?_⟩) (e_ifB (b_eq (e_law_deal (e_var rfl) e_c ⟨by omega, by omega⟩) (e_pi (C := fun _ => True) e_c trivial)) ((e_lit (K := K) (i := 0) (x := 0) (n := 7) (by decide +kernel) (by decide) (by decide)).imp fun v H p => ⟨0, prt_zero (by omega), p⟩) (e_law_any_part (e_var rfl) (e_var rfl) hc)) q
end
end K30

/-! text: KFive -/
set_option Elab.async false
set_option linter.all false
set_option maxRecDepth 100000
set_option maxHeartbeats 4000000
namespace K30
open PySem PySem.Spec PyProof.Rows L2 K30M
section
variable {P : Program} {w : World} {K : PySem.W.Frag} {mg : Str → Option Value} {base : Heap}
theorem e_shipL {a : Addr} {Γ : Ga} {t0 t1 : TE} {ga gd ge xc xs : Rat} (h0 : EvG (some a) t0 Γ (pT K [pQ K 7 ga, pQ K 1 0, pQ K 1 0, pQ K 7 gd, pQ K 7 ge])) (h1 : EvG (some a) t1 Γ (pHd K 16 xc xs)) : EvG (some a) (tCall (sp_law_ship K) [] E0 (tCons t0 (tCons t1 tNil))) Γ (pT K [pQ K 61 (0 + 0 + ((1 + gd) * xc) + ((ga - ge) * xs)), pQ K 61 (0 + 0 + ((ga + ge) * xc) + ((gd - 1) * xs))]) :=
  e_call (fun _ _ _ pp kk => ⟨ga, gd, ge, xc, xs, trivial, pp, kk⟩) (a_cons h0 (a_cons h1 a_nil))
abbrev pTm (K : PySem.W.Frag) (M : Nat) : Pd := pX (TameN M) (pFive K)
abbrev Q5 (K : PySem.W.Frag) (W U : Nat) : Pd := pT K [pPr K W U, pPr K W U, pPr K W U, pPr K W U, pPr K W U]
/-- five drawn fractions, each with its number -/
theorem q5_open {W U : Nat} : ∀ v H, Q5 K W U v H → ∃ f : Fv, (Prt W U f.a ∧ Prt W U f.b ∧ Prt W U f.c ∧ Prt W U f.d ∧ Prt W U f.e) ∧ pT K [pQ K 7 f.a, pQ K 7 f.b, pQ K 7 f.c, pQ K 7 f.d, pQ K 7 f.e] v H := fun v H ⟨p, vs, e, s, q⟩ => by
  obtain ⟨x1, x2, x3, x4, x5, rfl, ⟨a, ha, pa⟩, ⟨b, hb, pb⟩, ⟨c, hc, pc⟩, ⟨d, hd, pd⟩, ⟨g, hg, pg⟩⟩ := AllP.five q
  exact ⟨⟨a, b, c, d, g⟩, ⟨ha, hb, hc, hd, hg⟩, p, _, e, s, pa, pb, pc, pd, pg, trivial⟩
theorem e_tame {l : Option Addr} {Γ : Ga} {te : TE} {M : Nat} {f : Fv} {n1 n2 n3 n4 n5 : Nat} (h : EvG l te Γ (pT K [pQ K n1 f.a, pQ K n2 f.b, pQ K n3 f.c, pQ K n4 f.d, pQ K n5 f.e])) (t : TameN M f) (hM : M ≤ 2 ^ 48) : EvG l te Γ (pTm K M) := h.imp fun v H ⟨p, vs, e, s, q⟩ => by
  obtain ⟨x1, x2, x3, x4, x5, rfl, p1, p2, p3, p4, p5⟩ := AllP.five q
  obtain ⟨b1, b2, b3, b4, b5⟩ := (t.tame hM).bd
  exact ⟨f, t, p, _, e, s, ⟨b1, p1.2⟩, ⟨b2, p2.2⟩, ⟨b3, p3.2⟩, ⟨b4, p4.2⟩, ⟨b5, p5.2⟩, trivial⟩
theorem tm_up {l : Option Addr} {Γ : Ga} {te : TE} {M M' : Nat} (h : EvG l te Γ (pTm K M)) (hM : M ≤ M') : EvG l te Γ (pTm K M') := h.imp fun v H ⟨f, ⟨N, a, b, r⟩, p⟩ => ⟨f, ⟨N, a, Nat.lt_of_lt_of_le b hM, r⟩, p⟩
theorem pr_up {l : Option Addr} {Γ : Ga} {te : TE} {W U W' U' : Nat} (h : EvG l te Γ (pPr K W U)) (h1 : W ≤ W') (h2 : U ≤ U') : EvG l te Γ (pPr K W' U') := h.imp fun v H ⟨q, c, p⟩ => ⟨q, c.mono h1 h2, p⟩
theorem e_anyI {a : Addr} {Γ : Ga} {t0 t1 : TE} {C : Int → Prop} {W U : Nat} (h0 : EvG (some a) t0 Γ (pV (.ref a))) (h1 : EvG (some a) t1 Γ (pI C)) (hc : ∀ wd, C wd → 1 ≤ wd ∧ wd ≤ (W : Int) ∧ wd ≤ (U : Int) ∧ 7 ≤ U ∧ W < 128 ∧ U < 128) : EvG (some a) (tCall (sp_law_any_part K) [] E0 (tCons t0 (tCons t1 tNil))) Γ (pPr K W U) :=
  e_callL (Ps := [pV (.ref a), pI C]) (fun vs H Q lo pp kk => by
    obtain ⟨x, y, rfl, e1, m, c, e2⟩ := AllP.two pp
    exact ⟨a, m, W, U, hc m c, lo, ⟨e1, e2, trivial⟩, kk⟩) (a_cons h0 (a_cons h1 a_nil))
theorem e_anyFI {a : Addr} {Γ : Ga} {t0 t1 : TE} {C : Int → Prop} {W U : Nat} (h0 : EvG (some a) t0 Γ (pV (.ref a))) (h1 : EvG (some a) t1 Γ (pI C)) (hc : ∀ wd, C wd → 1 ≤ wd ∧ wd ≤ (W : Int) ∧ wd ≤ (U : Int) ∧ 7 ≤ U ∧ W < 128 ∧ U < 128) : EvG (some a) (tCall (sp_law_any_five K) [] E0 (tCons t0 (tCons t1 tNil))) Γ (Q5 K W U) :=
  e_callL (Ps := [pV (.ref a), pI C]) (fun vs H Q lo pp kk => by
    obtain ⟨x, y, rfl, e1, m, c, e2⟩ := AllP.two pp
    exact ⟨a, m, W, U, hc m c, lo, ⟨e1, e2, trivial⟩, kk⟩) (a_cons h0 (a_cons h1 a_nil))
/-! law_dead_five -/
def sp_law_dead_five (K : PySem.W.Frag) : Sp := fun vs H Q _ => ∃ (a : Addr) (xc xs : Rat), (UnitH (xc, xs)) ∧ Lode a H ∧ AllP [pV (.ref a), pHd K 16 xc xs] vs H ∧ ∀ v H', Up (some a) H H' → (pTm K (2 ^ 40) : Pd) v H' → Q v H'
theorem len_law_dead_five {vs : List V} {H : Hp} {Q : VK} {E : XK} (h : sp_law_dead_five K vs H Q E) : vs.length = 2 := by
  obtain ⟨_, _, _, _, _, pp, _⟩ := h
  exact AllP.len pp
theorem e_law_dead_five {a : Addr} {Γ : Ga} {t0 t1 : TE} {xc xs : Rat} (h0 : EvG (some a) t0 Γ (pV (.ref a))) (h1 : EvG (some a) t1 Γ (pHd K 16 xc xs)) (hc : UnitH (xc, xs)) : EvG (some a) (tCall (sp_law_dead_five K) [] E0 (tCons t0 (tCons t1 tNil))) Γ (pTm K (2 ^ 40)) := e_callL (fun _ _ _ lo pp kk => ⟨a, xc, xs, hc, lo, pp, kk⟩) (a_cons h0 (a_cons h1 a_nil))
theorem sc_law_dead_five : FnScope ["_law_lode_here", "_law_heading_here", "_law_found", "_law_x", "_law_y"] ["_law_lode_here", "_law_heading_here"] (defScope s_law_dead_five) := ⟨rfl, rfl, rfl, by decide +kernel, rfl, by decide +kernel, by decide +kernel⟩
theorem ok_law_dead_five (T : Txt K mg) : Fn P w K mg base 7 "_law_dead_five" ["_law_lode_here", "_law_heading_here"] (sp_law_dead_five K) := by
  refine fn_mk T 74 72 rfl rfl sc_law_dead_five (fun vs H Q E h => len_law_dead_five h) (fun _ _ _ _ _ _ us hl => match us, hl with | [_, _], _ => rfl) (fun f cdv A outer s H vs Q E hr h => ?_)
  obtain ⟨a, xc, xs, hc, lo, hp, k⟩ := h
  refine ⟨_, (pss_cons (ps_set (i := 2) sc_law_dead_five.nd rfl (Or.inl rfl) (pe_fn (ok_law_any_five T) (hr.mono (by decide)) (pa_cons (pv 0) (pa_cons pe_int pa_nil))))
      (pss_cons (ps_asg (pe_fn (ok_law_ship T) (hr.mono (by decide)) (pa_cons (pe_tup (pa_cons (pe_ix ix_tup (pv 2) pe_int (fun _ _ => rfl)) (pa_cons (pe_tup (pa_cons pe_int (pa_cons pe_int pa_nil))) (pa_cons (pe_tup (pa_cons pe_int (pa_cons pe_int pa_nil))) (pa_cons (pe_ix ix_tup (pv 2) pe_int (fun _ _ => rfl)) (pa_cons (pe_ix ix_tup (pv 2) pe_int (fun _ _ => rfl)) pa_nil)))))) (pa_cons (pv 1) pa_nil))) (pg_tup rfl (pgs_cons (pg_name (i := 3) sc_law_dead_five.nd rfl (by first | exact Or.inl rfl | exact Or.inr rfl)) (pgs_cons (pg_name (i := 4) sc_law_dead_five.nd rfl (by first | exact Or.inl rfl | exact Or.inr rfl)) pgs_nil))))
      (pss_one (ps_ret (pe_tup (pa_cons (pe_ix ix_tup (pv 2) pe_int (fun _ _ => rfl)) (pa_cons (pe_fn (ok_law_back T) (hr.mono (by decide)) (pa_cons (pv 3) pa_nil)) (pa_cons (pe_fn (ok_law_back T) (hr.mono (by decide)) (pa_cons (pv 4) pa_nil)) (pa_cons (pe_ix ix_tup (pv 2) pe_int (fun _ _ => rfl)) (pa_cons (pe_ix ix_tup (pv 2) pe_int (fun _ _ => rfl)) pa_nil)))))))))), ?_⟩
  refine (?_ : Run (some a) H _ _ ([some (pV (.ref a)), some (pHd K 16 xc xs), none, none, none] : Ga)) _ H (Up.refl (l := some a) lo) (fits0 (l := some a) hp lo rfl)
  refine r_set (e_law_any_five (W := 3) (U := 7) (e_var rfl) e_c ⟨by decide, by decide, by decide, by decide, by decide, by decide⟩) (r_open (i := 2) rfl q5_open fun f hf => ?_)
  refine r_weak (Δ := [some (pV (.ref a)), some (pHd K 16 xc xs), some (pT K [pQ K 7 f.a, pQ K 7 f.b, pQ K 7 f.c, pQ K 7 f.d, pQ K 7 f.e]), none, none]) (by repeat first | exact trivial | refine ⟨rfl, ?_⟩) ?_
  exact r_asg (e_shipL (e_tup (K := K) (a_cons (e_at 0 (e_var rfl) rfl) (a_cons (e_lit (i := 0) (x := 0) (n := 1) (by decide +kernel) (by decide) (by decide)) (a_cons (e_lit (i := 0) (x := 0) (n := 1) (by decide +kernel) (by decide) (by decide)) (a_cons (e_at 3 (e_var rfl) rfl) (a_cons (e_at 4 (e_var rfl) rfl) a_nil)))))) (e_var rfl)) (g_tup rfl (gs_cons g_name (gs_cons g_name gs_nil)))
    (r_doneL (e_tame (f := ⟨f.a, -(0 + 0 + ((1 + f.d) * xc) + ((f.a - f.e) * xs)), -(0 + 0 + ((f.a + f.e) * xc) + ((f.d - 1) * xs)), f.d, f.e⟩) (e_tup (K := K) (a_cons (e_at 0 (e_var rfl) rfl) (a_cons (e_law_back (e_var rfl)) (a_cons (e_law_back (e_var rfl)) (a_cons (e_at 3 (e_var rfl) rfl) (a_cons (e_at 4 (e_var rfl) rfl) a_nil)))))) (tame_dead hf.1 hf.2.2.2.1 hf.2.2.2.2 hc) (by decide)) k)
/-! law_flat_five -/
def sp_law_flat_five (K : PySem.W.Frag) : Sp := fun vs H Q _ => ∃ (a : Addr) , (True) ∧ Lode a H ∧ AllP [pV (.ref a)] vs H ∧ ∀ v H', Up (some a) H H' → (pTm K (2 ^ 40) : Pd) v H' → Q v H'
theorem len_law_flat_five {vs : List V} {H : Hp} {Q : VK} {E : XK} (h : sp_law_flat_five K vs H Q E) : vs.length = 1 := by
  obtain ⟨_, _, _, pp, _⟩ := h
  exact AllP.len pp
theorem e_law_flat_five {a : Addr} {Γ : Ga} {t0 : TE}  (h0 : EvG (some a) t0 Γ (pV (.ref a))) : EvG (some a) (tCall (sp_law_flat_five K) [] E0 (tCons t0 tNil)) Γ (pTm K (2 ^ 40)) := e_callL (fun _ _ _ lo pp kk => ⟨a, trivial, lo, pp, kk⟩) (a_cons h0 a_nil)
theorem sc_law_flat_five : FnScope ["_law_lode_here", "_law_a", "_law_half_here", "_law_far", "_law_double", "_law_d", "_law_e"] ["_law_lode_here"] (defScope s_law_flat_five) := ⟨rfl, rfl, rfl, by decide +kernel, rfl, by decide +kernel, by decide +kernel⟩
theorem ok_law_flat_five (T : Txt K mg) : Fn P w K mg base 7 "_law_flat_five" ["_law_lode_here"] (sp_law_flat_five K) := by
  refine fn_mk T 76 74 rfl rfl sc_law_flat_five (fun vs H Q E h => len_law_flat_five h) (fun _ _ _ _ _ _ us hl => match us, hl with | [_], _ => rfl) (fun f cdv A outer s H vs Q E hr h => ?_)
  obtain ⟨a, hc, lo, hp, k⟩ := h
  refine ⟨_, (pss_cons (ps_par3 (i := 1) (j := 2) (l := 3) rfl sc_law_flat_five.nd rfl rfl rfl (by decide) (by decide) (by decide) rfl rfl rfl (pa_cons (pe_fn (ok_law_any_part T) (hr.mono (by decide)) (pa_cons (pv 0) (pa_cons pe_int pa_nil))) (pa_cons (pe_fn (ok_law_some_heading T) (hr.mono (by decide)) (pa_cons (pv 0) pa_nil)) (pa_cons (pe_fn (ok_law_any_part T) (hr.mono (by decide)) (pa_cons (pv 0) (pa_cons (pe_fn (ok_law_some T) (hr.mono (by decide)) (pa_cons (pv 0) (pa_cons (pe_lst (pa_cons pe_int (pa_cons pe_int (pa_cons pe_int pa_nil)))) pa_nil))) pa_nil))) pa_nil))) (by rfl))
      (pss_cons (ps_set (i := 4) sc_law_flat_five.nd rfl (Or.inl rfl) (pe_fn (ok_law_turn T) (hr.mono (by decide)) (pa_cons (pv 2) (pa_cons (pv 2) pa_nil))))
      (pss_cons (ps_if (pt_cmpR op_eq (pe_fn (ok_law_deal T) (hr.mono (by decide)) (pa_cons (pv 0) (pa_cons pe_int pa_nil))) pe_int (nomark _)) (pss_one (ps_par (i := 1) (j := 3) rfl sc_law_flat_five.nd rfl rfl (by decide) rfl rfl (pa_cons (pe_tup (pa_cons pe_int (pa_cons pe_int pa_nil))) (pa_cons (pe_fn (ok_law_some T) (hr.mono (by decide)) (pa_cons (pv 0) (pa_cons (pe_lst (pa_cons (pe_tup (pa_cons pe_int (pa_cons pe_int pa_nil))) (pa_cons (pe_tup (pa_cons (pe_un un_neg pe_int) (pa_cons pe_int pa_nil))) (pa_cons (pe_tup (pa_cons pe_int (pa_cons pe_int pa_nil))) pa_nil)))) pa_nil))) pa_nil)) (by rfl))) pss_nil)
      (pss_cons (ps_set (i := 5) sc_law_flat_five.nd rfl (Or.inl rfl) (pe_fn (ok_law_add T) (hr.mono (by decide)) (pa_cons (pe_ix ix_tup (pv 4) pe_int (fun _ _ => rfl)) (pa_cons (pe_fn (ok_law_mul T) (hr.mono (by decide)) (pa_cons (pv 1) (pa_cons (pe_ix ix_tup (pv 4) pe_int (fun _ _ => rfl)) pa_nil))) pa_nil))))
      (pss_cons (ps_set (i := 6) sc_law_flat_five.nd rfl (Or.inl rfl) (pe_fn (ok_law_gap T) (hr.mono (by decide)) (pa_cons (pe_ix ix_tup (pv 4) pe_int (fun _ _ => rfl)) (pa_cons (pe_fn (ok_law_mul T) (hr.mono (by decide)) (pa_cons (pv 1) (pa_cons (pe_ix ix_tup (pv 4) pe_int (fun _ _ => rfl)) pa_nil))) pa_nil))))
      (pss_one (ps_ret (pe_tup (pa_cons (pv 1) (pa_cons (pe_fn (ok_law_mul T) (hr.mono (by decide)) (pa_cons (pv 3) (pa_cons (pe_ix ix_tup (pv 2) pe_int (fun _ _ => rfl)) pa_nil))) (pa_cons (pe_fn (ok_law_mul T) (hr.mono (by decide)) (pa_cons (pv 3) (pa_cons (pe_ix ix_tup (pv 2) pe_int (fun _ _ => rfl)) pa_nil))) (pa_cons (pv 5) (pa_cons (pv 6) pa_nil))))))))))))), ?_⟩
  refine (?_ : Run (some a) H _ _ ([some (pV (.ref a)), none, none, none, none, none, none] : Ga)) _ H (Up.refl (l := some a) lo) (fits0 (l := some a) hp lo rfl)
  refine r_par3 (a_cons (pr_up (W' := 2) (U' := 9) (e_law_any_part (W := 2) (U := 9) (e_var rfl) e_c ⟨by decide, by decide, by decide, by decide, by decide, by decide⟩) (by decide) (by decide)) (a_cons (e_law_some_heading (e_var rfl)) (a_cons (e_anyI (W := 9) (U := 9) (C := fun z => 1 ≤ z ∧ z ≤ 9) (e_var rfl) (e_some_i (K := K) (ns := [1, 3, 9]) (e_var rfl) (a_cons e_c (a_cons e_c (a_cons e_c a_nil))) (by simp) (by simp) (by decide)) fun wd h => ⟨by omega, by omega, by omega, by omega, by omega, by omega⟩) a_nil))) ?_
  refine r_open (i := 2) (P := pHX K) rfl (fun v H h => h) fun hd hu => ?_
  refine r_weak (Δ := [some (pV (.ref a)), some (pPr K 2 9), some (pHd K 16 hd.1 hd.2), some (pPr K 9 9), none, none, none]) (by repeat first | exact trivial | refine ⟨rfl, ?_⟩) ?_
  refine r_set (e_law_turn (e_var rfl) (e_var rfl) ⟨by omega, by omega⟩) ?_
  refine r_weak (Δ := [some (pV (.ref a)), some (pPr K 2 9), some (pHd K 16 hd.1 hd.2), some (pPr K 9 9), some (pT K [pQ K 65 (hd.1 * hd.1 - hd.2 * hd.2), pQ K 65 (hd.2 * hd.1 + hd.1 * hd.2)]), none, none]) (by repeat first | exact trivial | refine ⟨rfl, ?_⟩) ?_
  refine r_ifJ (Δ := [some (pV (.ref a)), some (pPr K 2 9), some (pHd K 16 hd.1 hd.2), some (pPr K 9 9), some (pT K [pQ K 65 (hd.1 * hd.1 - hd.2 * hd.2), pQ K 65 (hd.2 * hd.1 + hd.1 * hd.2)]), none, none]) (b_eq (e_law_deal (e_var rfl) e_c ⟨by omega, by omega⟩) (e_pi (C := fun _ => True) e_c trivial)) (fun N hN => ?_) (fun σ H f => f) ?_
  · refine r_parN (a_cons (P := pPr K 2 9) ((e_lit (K := K) (i := 0) (x := 0) (n := 7) (by decide +kernel) (by decide) (by decide)).imp fun v H p => ⟨0, prt_zero (by omega), p⟩) (a_cons (P := pPr K 9 9) (e_law_some (K := K) (Ps := [pQ K 7 2, pQ K 7 (-2), pQ K 7 0]) (e_var rfl) (e_lst (n_lst (a_cons (e_lit (i := 2) (x := 2) (n := 7) (by decide +kernel) (by decide) (by decide)) (a_cons (q_is (e_whole (i := -2) (n := 7) (by decide) (by decide) (e_neg e_c)) (by decide +kernel)) (a_cons (e_lit (i := 0) (x := 0) (n := 7) (by decide +kernel) (by decide) (by decide)) a_nil))))) (by simp) (by simp) ?_) a_nil)) fun σ H u f => hN σ H u f
    intro P hP v H p
    simp only [List.mem_cons, List.mem_nil_iff, or_false] at hP
    rcases hP with rfl | rfl | rfl
    · exact ⟨2, by have := prt_int (W := 9) (U := 9) 2 (by decide) (by decide); rw [show ((2 : Int) : Rat) = 2 from rfl] at this; exact this, p⟩
    · exact ⟨-2, by have := prt_int (W := 9) (U := 9) (-2) (by decide) (by decide); rw [show ((-2 : Int) : Rat) = -2 by decide +kernel] at this; exact this, p⟩
    · exact ⟨0, prt_zero (by omega), p⟩
  · refine r_open (i := 1) (P := pPr K 2 9) rfl (fun v H h => h) fun ga ha => r_open (i := 3) (P := pPr K 9 9) rfl (fun v H h => h) fun gr hr => ?_
    refine r_weak (Δ := [some (pV (.ref a)), some (pQ K 7 ga), some (pHd K 16 hd.1 hd.2), some (pQ K 7 gr), some (pT K [pQ K 65 (hd.1 * hd.1 - hd.2 * hd.2), pQ K 65 (hd.2 * hd.1 + hd.1 * hd.2)]), none, none]) (by repeat first | exact trivial | refine ⟨rfl, ?_⟩) ?_
    exact r_set (e_law_add (e_at 0 (e_var rfl) rfl) (e_law_mul (e_var rfl) (e_at 1 (e_var rfl) rfl) (by omega)) (by omega)) (r_set (e_law_gap (e_at 1 (e_var rfl) rfl) (e_law_mul (e_var rfl) (e_at 0 (e_var rfl) rfl) (by omega)) (by omega))
      (r_doneL (e_tame (f := ⟨ga, gr * hd.1, gr * hd.2, _, _⟩) (e_tup (K := K) (a_cons (e_var rfl) (a_cons (e_law_mul (e_var rfl) (e_at 0 (e_var rfl) rfl) (by omega)) (a_cons (e_law_mul (e_var rfl) (e_at 1 (e_var rfl) rfl) (by omega)) (a_cons (e_var rfl) (a_cons (e_var rfl) a_nil)))))) (tame_flat ha hr hu) (by decide)) k))
theorem e_deadX {a : Addr} {Γ : Ga} {t0 t1 : TE} (h0 : EvG (some a) t0 Γ (pV (.ref a))) (h1 : EvG (some a) t1 Γ (pHX K)) : EvG (some a) (tCall (sp_law_dead_five K) [] E0 (tCons t0 (tCons t1 tNil))) Γ (pTm K (2 ^ 40)) :=
  e_callL (Ps := [pV (.ref a), pHX K]) (fun vs H Q lo pp kk => by
    obtain ⟨x, y, rfl, e1, h, c, e2⟩ := AllP.two pp
    exact ⟨a, h.1, h.2, c, lo, ⟨e1, e2, trivial⟩, kk⟩) (a_cons h0 (a_cons h1 a_nil))
theorem bd16 : Bd 3 r16 := by decide +kernel
theorem bd15 : Bd 3 r15 := by decide +kernel
theorem bd19 : Bd 4 r19 := by decide +kernel
theorem e_greatX {a : Addr} {Γ : Ga} {t1 : TE} (h1 : EvG (some a) t1 Γ (pPr K 4 7)) : EvG (some a) (tCall (sp_law_add K) [] E0 (tCons (tTup (tCons (tC (.int 2)) (tCons (tC (.int 1)) tNil))) (tCons t1 tNil))) Γ (pX (fun q : Rat => ∃ o, Prt 4 7 o ∧ q = 2 + o) fun q => pQ K 10 q) :=
  e_call (Ps := [pQ K 2 2, pPr K 4 7]) (fun vs H Q pp kk => by
    obtain ⟨x, y, rfl, e1, o, c, e2⟩ := AllP.two pp
    exact ⟨2, o, 2, 7, by omega, ⟨e1, e2, trivial⟩, fun v H' s p => kk v H' s ⟨_, ⟨o, c, rfl⟩, p⟩⟩) (a_cons (e_lit (i := 2) (x := 2) (n := 2) (by decide +kernel) (by decide) (by decide)) (a_cons h1 a_nil))
/-! law_kind_five -/
def sp_law_kind_five (K : PySem.W.Frag) : Sp := fun vs H Q _ => ∃ (a : Addr) , (True) ∧ Lode a H ∧ AllP [pV (.ref a)] vs H ∧ ∀ v H', Up (some a) H H' → (pX Tame (pFive K) : Pd) v H' → Q v H'
theorem len_law_kind_five {vs : List V} {H : Hp} {Q : VK} {E : XK} (h : sp_law_kind_five K vs H Q E) : vs.length = 1 := by
  obtain ⟨_, _, _, pp, _⟩ := h
  exact AllP.len pp
theorem e_law_kind_five {a : Addr} {Γ : Ga} {t0 : TE}  (h0 : EvG (some a) t0 Γ (pV (.ref a))) : EvG (some a) (tCall (sp_law_kind_five K) [] E0 (tCons t0 tNil)) Γ (pX Tame (pFive K)) := e_callL (fun _ _ _ lo pp kk => ⟨a, trivial, lo, pp, kk⟩) (a_cons h0 a_nil)
theorem sc_law_kind_five : FnScope ["_law_lode_here", "_law_way", "_law_five", "_law_flat", "_law_each", "_law_great"] ["_law_lode_here"] (defScope s_law_kind_five) := ⟨rfl, rfl, rfl, by decide +kernel, rfl, by decide +kernel, by decide +kernel⟩
theorem ok_law_kind_five (T : Txt K mg) : Fn P w K mg base 8 "_law_kind_five" ["_law_lode_here"] (sp_law_kind_five K) := by
  refine fn_mk T 77 75 rfl rfl sc_law_kind_five (fun vs H Q E h => len_law_kind_five h) (fun _ _ _ _ _ _ us hl => match us, hl with | [_], _ => rfl) (fun f cdv A outer s H vs Q E hr h => ?_)
  obtain ⟨a, hc, lo, hp, k⟩ := h
  have fin : ∀ {Γ : Ga} {te : TE} {M : Nat}, M ≤ 2 ^ 48 → EvG (some a) te Γ (pTm K M) → EvG (some a) te Γ (pX Tame (pFive K)) := fun {Γ te M} hM h => h.imp fun v H ⟨f, t, p⟩ => ⟨f, t.tame hM, p⟩
  refine ⟨_, (pss_cons (ps_set (i := 1) sc_law_kind_five.nd rfl (Or.inl rfl) (pe_fn (ok_law_deal T) (hr.mono (by decide)) (pa_cons (pv 0) (pa_cons pe_int pa_nil))))
      (pss_cons (ps_if (pt_cmpR op_eq (pv 1) pe_int (nomark _)) (pss_one (ps_ret (pe_fn (ok_law_flat_five T) (hr.mono (by decide)) (pa_cons (pv 0) pa_nil)))) pss_nil)
      (pss_cons (ps_if (pt_cmpR op_eq (pv 1) pe_int (nomark _)) (pss_one (ps_ret (pe_fn (ok_law_dead_five T) (hr.mono (by decide)) (pa_cons (pv 0) (pa_cons (pe_fn (ok_law_some_heading T) (hr.mono (by decide)) (pa_cons (pv 0) pa_nil)) pa_nil))))) pss_nil)
      (pss_cons (ps_set (i := 2) sc_law_kind_five.nd rfl (Or.inl rfl) (pe_fn (ok_law_any_five T) (hr.mono (by decide)) (pa_cons (pv 0) (pa_cons (pe_fn (ok_law_some T) (hr.mono (by decide)) (pa_cons (pv 0) (pa_cons (pe_lst (pa_cons pe_int (pa_cons pe_int (pa_cons pe_int pa_nil)))) pa_nil))) pa_nil))))
      (pss_cons (ps_if (pt_cmpR op_eq (pv 1) pe_int (nomark _)) (pss_one (ps_ret (pv 2))) pss_nil)
      (pss_cons (ps_if (pt_cmpR op_eq (pv 1) pe_int (nomark _)) (pss_cons (ps_set (i := 3) sc_law_kind_five.nd rfl (Or.inl rfl) (pe_fn (ok_law_flat_five T) (hr.mono (by decide)) (pa_cons (pv 0) pa_nil)))
      (pss_one (ps_ret (pe_tup (pa_cons (pe_ix ix_tup (pv 3) pe_int (fun _ _ => rfl)) (pa_cons (pe_ix ix_tup (pv 2) pe_int (fun _ _ => rfl)) (pa_cons (pe_ix ix_tup (pv 2) pe_int (fun _ _ => rfl)) (pa_cons (pe_ix ix_tup (pv 3) pe_int (fun _ _ => rfl)) (pa_cons (pe_ix ix_tup (pv 3) pe_int (fun _ _ => rfl)) pa_nil))))))))) pss_nil)
      (pss_cons (ps_if (pt_cmpR op_eq (pv 1) pe_int (nomark _)) (pss_one (ps_ret (pe_callTy call_tuple_of rfl (T.free 111 rfl) (by decide +kernel) (pa_cons (pe_lc (own := [("_law_each", 4)]) (g := (gName 4)) (tt := tYes) rfl sc_law_kind_five.nd  (pi_tup (pv 2)) (blkOk_by (own := [("_law_each", 4)]) (N := ["_law_lode_here", "_law_way", "_law_five", "_law_flat", "_law_each", "_law_great"]) (sc := defScope s_law_kind_five) (by decide +kernel)) (fun _ _ _ _ _ => (pg_name (i := 4) sc_law_kind_five.nd rfl (by first | exact Or.inl rfl | exact Or.inr rfl))) (fun _ _ _ _ _ => pts_nil) (fun _ _ _ _ _ => (pe_fn (ok_law_mul T) (hr.mono (by decide)) (pa_cons (pv 4) (pa_cons (pe_tup (pa_cons pe_int (pa_cons pe_int pa_nil))) pa_nil))))) pa_nil)))) pss_nil)
      (pss_cons (ps_set (i := 5) sc_law_kind_five.nd rfl (Or.inl rfl) (pe_fn (ok_law_add T) (hr.mono (by decide)) (pa_cons (pe_tup (pa_cons pe_int (pa_cons pe_int pa_nil))) (pa_cons (pe_fn (ok_law_over T) (hr.mono (by decide)) (pa_cons (pv 0) (pa_cons pe_int pa_nil))) pa_nil))))
      (pss_cons (ps_if (pt_cmpR op_eq (pv 1) pe_int (nomark _)) (pss_one (ps_ret (pe_tup (pa_cons (pe_fn (ok_law_mul T) (hr.mono (by decide)) (pa_cons (pe_ix ix_tup (pv 2) pe_int (fun _ _ => rfl)) (pa_cons (pe_tup (pa_cons pe_int (pa_cons pe_int pa_nil))) pa_nil))) (pa_cons (pe_fn (ok_law_mul T) (hr.mono (by decide)) (pa_cons (pe_ix ix_tup (pv 2) pe_int (fun _ _ => rfl)) (pa_cons (pe_tup (pa_cons pe_int (pa_cons pe_int pa_nil))) pa_nil))) (pa_cons (pe_tup (pa_cons pe_int (pa_cons pe_int pa_nil))) (pa_cons (pv 5) (pa_cons (pe_fn (ok_law_mul T) (hr.mono (by decide)) (pa_cons (pe_ix ix_tup (pv 2) pe_int (fun _ _ => rfl)) (pa_cons (pe_tup (pa_cons pe_int (pa_cons pe_int pa_nil))) pa_nil))) pa_nil)))))))) pss_nil)
      (pss_one (ps_ret (pe_tup (pa_cons (pe_fn (ok_law_mul T) (hr.mono (by decide)) (pa_cons (pe_ix ix_tup (pv 2) pe_int (fun _ _ => rfl)) (pa_cons (pe_tup (pa_cons pe_int (pa_cons pe_int pa_nil))) pa_nil))) (pa_cons (pv 5) (pa_cons (pe_ix ix_tup (pv 2) pe_int (fun _ _ => rfl)) (pa_cons (pe_fn (ok_law_mul T) (hr.mono (by decide)) (pa_cons (pe_ix ix_tup (pv 2) pe_int (fun _ _ => rfl)) (pa_cons (pe_tup (pa_cons pe_int (pa_cons pe_int pa_nil))) pa_nil))) (pa_cons (pe_fn (ok_law_mul T) (hr.mono (by decide)) (pa_cons (pe_ix ix_tup (pv 2) pe_int (fun _ _ => rfl)) (pa_cons (pe_tup (pa_cons pe_int (pa_cons pe_int pa_nil))) pa_nil))) pa_nil))))))))))))))))), ?_⟩
  refine (?_ : Run (some a) H _ _ ([some (pV (.ref a)), none, none, none, none, none] : Ga)) _ H (Up.refl (l := some a) lo) (fits0 (l := some a) hp lo rfl)
  refine r_setX (C := fun d : Int => 0 ≤ d ∧ d < 7) (fun x => inferInstance) (e_law_deal (e_var rfl) e_c ⟨by omega, by omega⟩) fun wy hw => ?_
  refine r_if (t_of (e_eq rfl (e_var rfl) e_c)) (fun _ => r_doneL (fin (by decide) (e_law_flat_five (e_var rfl))) k) fun _ => r_next0 ?_
  refine r_if (t_of (e_eq rfl (e_var rfl) e_c)) (fun _ => r_doneL (fin (by decide) (e_deadX (e_var rfl) (e_law_some_heading (e_var rfl)))) k) fun _ => r_next0 ?_
  refine r_set (e_anyFI (W := 9) (U := 9) (C := fun z => 1 ≤ z ∧ z ≤ 9) (e_var rfl) (e_some_i (K := K) (ns := [1, 3, 9]) (e_var rfl) (a_cons e_c (a_cons e_c (a_cons e_c a_nil))) (by simp) (by simp) (by decide)) fun wd h => ⟨by omega, by omega, by omega, by omega, by omega, by omega⟩) (r_open (i := 2) rfl q5_open fun f hf => ?_)
  obtain ⟨h1, h2, h3, h4, h5⟩ := hf
  refine r_weak (Δ := [some (pV (.ref a)), some (pV (.int wy)), some (pT K [pQ K 7 f.a, pQ K 7 f.b, pQ K 7 f.c, pQ K 7 f.d, pQ K 7 f.e]), none, none, none]) (by repeat first | exact trivial | refine ⟨rfl, ?_⟩) ?_
  refine r_if (t_of (e_eq rfl (e_var rfl) e_c)) (fun _ => r_doneL (fin (M := 2 ^ 40) (by decide) (e_tame (f := f) (e_var rfl) (tame_any (W := 9) (U := 9) (by decide) (by decide) h1 h2 h3 h4 h5) (by decide))) k) fun _ => r_next0 ?_
  refine r_if (t_of (e_eq rfl (e_var rfl) e_c)) (fun _ => ?_) fun _ => r_next0 ?_
  · refine r_setX (fun x => inferInstance) (e_law_flat_five (e_var rfl)) fun g tg => ?_
    exact r_doneL (fin (M := 2 ^ 48) (by decide) (e_tame (f := ⟨g.a, f.b, f.c, g.d, g.e⟩) (e_tup (K := K) (a_cons (e_at 0 (e_var rfl) rfl) (a_cons (e_at 1 (e_var rfl) rfl) (a_cons (e_at 2 (e_var rfl) rfl) (a_cons (e_at 3 (e_var rfl) rfl) (a_cons (e_at 4 (e_var rfl) rfl) a_nil)))))) (tame3 (W := 9) (U := 9) (by decide) (by decide) tg h2 h3) (by decide))) k
  refine r_if (t_of (e_eq rfl (e_var rfl) e_c)) (fun _ => r_doneL (fin (M := 2 ^ 48) (by decide) (e_tame (n1 := 10) (n2 := 10) (n3 := 10) (n4 := 10) (n5 := 10) (f := ⟨f.a * r16, f.b * r16, f.c * r16, f.d * r16, f.e * r16⟩) (e_none (e_tupL (K := K) (e_lcT (K := K) (Rs := [pQ K 10 (f.a * r16), pQ K 10 (f.b * r16), pQ K 10 (f.c * r16), pQ K 10 (f.d * r16), pQ K 10 (f.e * r16)]) (e_var rfl) ⟨turn1_name ?_, turn1_name ?_, turn1_name ?_, turn1_name ?_, turn1_name ?_, trivial⟩))) (tame4 (W := 9) (U := 9) (by decide) (by decide) h1 h2 h3 h4 h5) (by decide))) k) fun _ => r_next0 ?_
  iterate 5 exact e_law_mul (m := 7) (n := 3) (e_var rfl) (e_fr (K := K) (i := 1) (d := 6) (q := r16) rfl rfl bd16) (by omega)
  refine r_setX (C := fun q : Rat => ∃ o, Prt 4 7 o ∧ q = 2 + o) (g := fun q => pQ K 10 q) (fun x => inferInstance) (e_greatX (e_law_over (e_var rfl) e_c)) fun gq hq => ?_
  obtain ⟨o, ho, rfl⟩ := hq
  refine r_if (t_of (e_eq rfl (e_var rfl) e_c)) (fun _ => r_doneL (fin (M := 2 ^ 48) (by decide) (e_tame (f := ⟨f.a * r15, f.b * r15, 0, 2 + o, f.e * r15⟩) (e_tup (K := K) (a_cons (e_law_mul (e_at 0 (e_var rfl) rfl) (e_fr (K := K) (i := 1) (d := 5) (q := r15) rfl rfl bd15) (by omega)) (a_cons (e_law_mul (e_at 1 (e_var rfl) rfl) (e_fr (K := K) (i := 1) (d := 5) (q := r15) rfl rfl bd15) (by omega)) (a_cons (e_lit (i := 0) (x := 0) (n := 1) (by decide +kernel) (by decide) (by decide)) (a_cons (e_var rfl) (a_cons (e_law_mul (e_at 4 (e_var rfl) rfl) (e_fr (K := K) (i := 1) (d := 5) (q := r15) rfl rfl bd15) (by omega)) a_nil)))))) (tame5 (W := 9) (U := 9) (by decide) (by decide) h1 h2 h5 ho) (by decide))) k) fun _ => r_next0 ?_
  exact r_doneL (fin (M := 2 ^ 48) (by decide) (e_tame (f := ⟨f.a * r15, 2 + o, f.c, f.d * r19, f.e * r19⟩) (e_tup (K := K) (a_cons (e_law_mul (e_at 0 (e_var rfl) rfl) (e_fr (K := K) (i := 1) (d := 5) (q := r15) rfl rfl bd15) (by omega)) (a_cons (e_var rfl) (a_cons (e_at 2 (e_var rfl) rfl) (a_cons (e_law_mul (e_at 3 (e_var rfl) rfl) (e_fr (K := K) (i := 1) (d := 9) (q := r19) rfl rfl bd19) (by omega)) (a_cons (e_law_mul (e_at 4 (e_var rfl) rfl) (e_fr (K := K) (i := 1) (d := 9) (q := r19) rfl rfl bd19) (by omega)) a_nil)))))) (tame6 (W := 9) (U := 9) (by decide) (by decide) h1 h3 h4 h5 ho) (by decide))) k
end
end K30

/-! text: KLode -/
set_option Elab.async false
set_option linter.all false
set_option maxRecDepth 100000
set_option maxHeartbeats 4000000
namespace K30
open PySem PySem.Spec PyProof.Rows L2 K30M
section
variable {P : Program} {w : World} {K : PySem.W.Frag} {mg : Str → Option Value} {base : Heap}
/-- a list of whole numbers -/
abbrev pInts (K : PySem.W.Frag) (ns : List Int) : Pd := pL K (ns.map fun n => pV (.int n))
theorem ints_of {H : Hp} {ns : List Int} {vs : List V} (h : AllP (ns.map fun n => pV (.int n)) vs H) : vs = ns.map V.int := vals_of (xs := ns.map V.int) (by rw [List.map_map]; exact h)
/-- .. unknown ones, a list of its own -/
def OL (ms : List Int) : Pd := fun v H => ∃ p, v = .ref p ∧ H p = some (.lst (ms.map V.int))
abbrev pOL (N : Nat) : Pd := pX (fun ms : List Int => ms.length ≤ N) OL
instance {ms : List Int} : Mo none (OL ms) := ⟨fun v H H' lo u ⟨p, e, h⟩ => ⟨p, e, u p _ h⟩⟩
section
variable {Γ : Ga} {te ta tb : TE} {ns : List Int} {n N M : Nat}
theorem e_slI (hn : ns.length ≤ N) (h : EvG none te Γ (pInts K ns)) : EvG none (tSl (rSlL K) te tNoPart (tPart (tC (.int (n : Int))))) Γ (pOL N) := fun σ H Q f q =>
  h σ H _ f fun v H1 u1 b1 => by
    obtain ⟨a, vs, e, s, p⟩ := Box.now u1.lo b1
    have ev := ints_of p
    have hz : ∀ ms : List V, (∀ x ∈ ms, x ∈ vs) → ∃ zs : List Int, ms = zs.map V.int := by
      intro ms
      induction ms with
      | nil => exact fun _ => ⟨[], rfl⟩
      | cons x ms ih =>
        intro hm
        have hx := hm x List.mem_cons_self
        rw [ev] at hx
        obtain ⟨z, _, ez⟩ := List.mem_map.mp hx
        obtain ⟨zs, ezs⟩ := ih fun y hy => hm y (List.mem_cons_of_mem _ hy)
        exact ⟨z :: zs, by rw [← ez, ezs]; rfl⟩
    obtain ⟨zs, ezs⟩ := hz (cutV vs none (some (n : Int))) fun x hx => by
      unfold cutV at hx
      exact List.mem_of_mem_drop (List.mem_of_mem_take hx)
    refine ⟨(n : Int), rfl, a, vs, e, s, fun t nt => ?_⟩
    have u2 : Same H1 (upd H1 t (.lst (cutV vs none (some (n : Int))))) := Same.new nt
    refine q _ _ (Same.trans u1 u2) (box_of (l := none) (P := pOL N) trivial ⟨zs, ?_, t, rfl, ?_⟩)
    · have l1 := cutV_length vs none (some (n : Int))
      rw [ezs, List.length_map, ev, List.length_map] at l1
      exact Nat.le_trans l1 hn
    · rw [← ezs]
      exact upd_same
theorem e_sumI (h : EvG none te Γ (pOL N)) : EvG none (tCB (rSum K) (tCons te tNil)) Γ pAny :=
  e_cb (Ps := [pOL N]) (fun vs H Q p k => by
    obtain ⟨x, rfl, ms, c, p2, e, hp⟩ := AllP.one p
    subst e
    exact ⟨p2, ms, rfl, SqL.of hp, k _ H (Same.refl H) ⟨_, trivial, rfl⟩⟩) (a_cons h a_nil)
theorem e_one (h : EvG none te Γ pAny) : EvG none (tLst (tCons te tNil)) Γ (pOL 1) := fun σ H Q f q =>
  h σ H _ f fun v H1 u1 b1 => by
    obtain ⟨m, _, e⟩ := Box.now u1.lo b1
    have e : v = .int m := e
    subst e
    refine ⟨Nat.le_of_lt (small1000 (by simp)), fun p np => ?_⟩
    exact q _ _ (Same.trans u1 (Same.new np)) (box_of (l := none) (P := pOL 1) trivial ⟨[m], by simp, p, rfl, upd_same⟩)
theorem e_catI (ha : EvG none ta Γ (pOL N)) (hb : EvG none tb Γ (pOL M)) (small : N + M ≤ 1000) : EvG none (tOp rCat ta tb) Γ (pOL (N + M)) :=
  e_op (P := pOL N) (P' := pOL M) (fun x y H Q hx hy k => by
    obtain ⟨xs, lx, p, ep, hp⟩ := hx
    obtain ⟨ys, ly, q, eq, hq⟩ := hy
    have lx : xs.length ≤ N := lx
    have ly : ys.length ≤ M := ly
    refine ⟨p, q, _, _, ep, eq, hp, hq, ?_, fun t nt => k _ _ (Same.new nt) ⟨xs ++ ys, ?_, t, rfl, ?_⟩⟩
    · rw [List.length_map, List.length_map]
      exact Nat.le_of_lt (small1000 (by omega))
    · show (xs ++ ys).length ≤ N + M
      rw [List.length_append]
      omega
    · rw [List.map_append]
      exact upd_same) ha hb
theorem e_ixI {k : Nat} (hk : k < ns.length) (ha : EvG none ta Γ (pInts K ns)) (hb : EvG none tb Γ (pV (.int (k : Int)))) : EvG none (tOp (rIxL K) ta tb) Γ pAny :=
  e_op (P := pInts K ns) (P' := pV (.int (k : Int))) (fun x y H Q hx hy kk => by
    obtain ⟨a, vs, e, s, p⟩ := hx
    have ev := ints_of p
    subst ev
    exact ⟨a, _, (k : Int), .int ns[k], e, hy, s, atI_nat (by rw [List.getElem?_map, List.getElem?_eq_getElem hk]; rfl), kk _ H (Same.refl H) ⟨_, trivial, rfl⟩⟩) ha hb
theorem b_or {l : Option Addr} {tt tu : TT} (h : EvB l tt Γ) (h2 : EvB l tu Γ) : EvB l (tOr tt tu) Γ := fun σ H Q f q => h σ H _ f fun b H1 u => by
  cases b with
  | true =>
    rw [if_pos rfl]
    exact q _ H1 u
  | false =>
    rw [if_neg Bool.false_ne_true]
    exact h2 σ H1 Q (f.up u) fun b H2 u2 => q b H2 (u.trans u2)
theorem r_forI {H0 : Hp} {D : Ends} {tb t : TS} {i : Nat} (hs : EvG none te Γ (pOL N)) (step : ∀ H1, TurnF none H1 tb { D with nx := t D } (t D) (pt Γ i (some pAny)) Γ) (after : Run none H0 t D Γ) : Run none H0 (tSeq (tFor (iList K te) (gName i) tb) t) D Γ := fun σ H u f =>
  hs σ H _ f fun v H1 u1 b1 => by
    obtain ⟨ms, _, p, e, hp⟩ := Box.now u1.lo b1
    have s : SqL K H1 p (ms.map V.int) := SqL.of hp
    refine ⟨p, e, ⟨_, s⟩, for_list (K := K) (a := p) (xs := ms.map V.int) (fun k σ' H' => Up none H0 H' ∧ Up none H1 H' ∧ Fits none Γ σ' H') ⟨u.trans u1, Up.refl u1.lo, f.up u1⟩ (fun k σ' H' _ hp => Same.seq hp.2.1 s) (fun k x σ' H' hx hp => ?_) fun σ' H' hp => after σ' H' hp.1 hp.2.2⟩
    have hm := List.mem_of_getElem? hx
    obtain ⟨z, _, ez⟩ := List.mem_map.mp hm
    exact step H1 _ (fun σ2 H2 u2 f2 => ⟨(u.trans u1).trans u2, u2, f2⟩) _ H' hp.2.1 (hp.2.2.put (box_of (l := none) trivial ⟨z, trivial, ez.symm⟩))
theorem e_lenI {l : Option Addr} (h : EvG none te Γ (pInts K ns)) : EvG none (tCB (rLenS K) (tCons te tNil)) Γ (pV (.int (ns.length : Int))) := e_int (e_lenL (K := K) h) (by rw [List.length_map])
end
def sp_law_lode (K : PySem.W.Frag) : Sp := fun vs H Q _ => ∃ (ns : List Int) (k : Nat), (ns.length ≤ 63 ∧ k ≤ 3) ∧ AllP [pInts K ns, pV (.int (k : Int))] vs H ∧ ∀ q H', Same H H' → H q = none → Lode q H' → Q (.ref q) H'
theorem len_law_lode {vs : List V} {H : Hp} {Q : VK} {E : XK} (h : sp_law_lode K vs H Q E) : vs.length = 2 := by
  obtain ⟨_, _, _, pp, _⟩ := h
  exact AllP.len pp
theorem sc_law_lode : FnScope ["_law_script", "_law_lap", "_law_cell", "_law_stirred", "_law_each"] ["_law_script", "_law_lap"] (defScope s_law_lode) := ⟨rfl, rfl, rfl, by decide +kernel, rfl, by decide +kernel, by decide +kernel⟩
theorem ok_law_lode (T : Txt K mg) : Fn P w K mg base 1 "_law_lode" ["_law_script", "_law_lap"] (sp_law_lode K) := by
  refine fn_mk T 51 49 rfl rfl sc_law_lode (fun vs H Q E h => len_law_lode h) (fun _ _ _ _ _ _ us hl => match us, hl with | [_, _], _ => rfl) (fun f cdv A outer s H vs Q E hr h => ?_)
  obtain ⟨ns, lp, hc, hp, k⟩ := h
  refine ⟨_, (pss_cons (ps_set (i := 2) sc_law_lode.nd rfl (Or.inl rfl) (pe_ifExp (pt_cmpR op_lt (pv 1) (pe_callB call_len_seq rfl (T.free 105 rfl) (by decide +kernel) (pa_cons (pv 0) pa_nil)) (nomark _)) (pe_callTy call_int1 rfl (T.free 103 rfl) (by decide +kernel) (pa_cons (pe_ix ix_list (pv 0) (pv 1) (fun _ _ => rfl)) pa_nil)) (pe_op op_add (pe_op op_add (pe_op op_mul pe_int (pv 1)) pe_int) (pe_op op_mod (pe_callTy call_int1 rfl (T.free 103 rfl) (by decide +kernel) (pa_cons (pe_callB (cr_sum rfl) rfl (T.free 110 rfl) (by decide +kernel) (pa_cons (pe_slice sl_list (pv 0) po_none (po_some pe_int)) pa_nil)) pa_nil)) pe_int))))
      (pss_cons (ps_set (i := 3) sc_law_lode.nd rfl (Or.inl rfl) (pe_op op_add pe_int (pe_op op_mul pe_int (pv 1))))
      (pss_cons (ps_for PassesOwn.never rfl (pi_list (pe_op op_cat (pe_slice sl_list (pv 0) po_none (po_some pe_int)) (pe_lst (pa_cons (pv 2) pa_nil)))) (pg_name (i := 4) sc_law_lode.nd rfl (by first | exact Or.inl rfl | exact Or.inr rfl)) (pss_one (ps_set (i := 3) sc_law_lode.nd rfl (Or.inl rfl) (pe_op op_mod (pe_callTy call_int1 rfl (T.free 103 rfl) (by decide +kernel) (pa_cons (pe_op op_add (pe_op op_add (pe_op op_mul (pv 3) pe_int) (pe_op op_mod (pe_callTy call_int1 rfl (T.free 103 rfl) (by decide +kernel) (pa_cons (pv 4) pa_nil)) pe_int)) pe_int) pa_nil)) pe_int))))
      (pss_one (ps_ret (pe_lst (pa_cons (pe_ifExp (PW.pt (pw_or (pt_cmpR op_lt (pv 2) pe_int (nomark _)) (pw_or1 (pt_cmpR op_ge (pv 2) (pe_op op_pow pe_int pe_int) (nomark _))))) (pe_callB call_abs rfl (T.free 99 rfl) (by decide +kernel) (pa_cons (pv 2) pa_nil)) pe_int) (pa_cons (pv 3) (pa_cons pe_int pa_nil))))))))), ?_⟩
  refine (?_ : Run none H _ _ ([some (pInts K ns), some (pV (.int (lp : Int))), none, none, none] : Ga)) _ H (Same.refl H) (fits0 hp trivial rfl)
  refine r_set (P := pAny) (e_if (t_of (e_I0 (e_var rfl) (e_lenI (l := none) (K := K) (e_var rfl)))) (fun hb => x_int1 (e_ixI (K := K) ?_ (e_var rfl) (e_var rfl))) fun hb => x_I0 (C := fun _ => True) (C' := fun _ => True) (e_pi (e_I0 (e_I (mul_l (by decide) (by decide)) e_c (e_var rfl)) e_c) trivial) (x_IX (C := fun _ => True) (C' := fun z => z = 1000133) (x_int1 (e_sumI (K := K) (e_slI (K := K) (n := 5) hc.1 (e_var rfl)))) (e_pi e_c rfl) (fun _ n _ h => by rw [h]; decide) fun _ _ _ _ => trivial) fun _ _ _ _ => trivial) ?_
  · have := of_decide_eq_true hb
    omega
  refine r_set (P := pAny) (e_pi (e_I0 e_c (e_I (mul_l (by decide) (by decide)) e_c (e_var rfl))) trivial) ?_
  refine r_weak (Δ := [some (pInts K ns), some (pV (.int (lp : Int))), some pAny, some pAny, none]) (by repeat first | exact trivial | refine ⟨rfl, ?_⟩) ?_
  refine r_forI (K := K) (e_catI (e_slI (K := K) (n := 11) hc.1 (e_var rfl)) (e_one (e_var rfl)) (by decide)) (fun H1 N hN => ?_) ?_
  · exact r_setN (P := pAny) (x_IX (C := fun _ => True) (C' := fun z => z = 2147483477) (x_int1 (x_I0 (C := fun _ => True) (C' := fun _ => True) (x_I0 (C := fun _ => True) (C' := fun _ => True) (x_IX (C := fun _ => True) (C' := fun z => z = 39373) (e_var rfl) (e_pi e_c rfl) (fun m n _ h => mul_r (by omega) (by omega)) fun _ _ _ _ => trivial) (x_IX (C := fun _ => True) (C' := fun z => z = 2147483477) (x_int1 (e_var rfl)) (e_pi e_c rfl) (fun _ n _ h => by rw [h]; decide) fun _ _ _ _ => trivial) fun _ _ _ _ => trivial) (e_pi e_c trivial) fun _ _ _ _ => trivial)) (e_pi e_c rfl) (fun _ n _ h => by rw [h]; decide) fun _ _ _ _ => trivial) fun σ H' u f => hN σ H' u (f.weak (by repeat first | exact trivial | refine ⟨rfl, ?_⟩))
  · refine fun σ H' u f => n_lst (Ps := [pAny, pAny, pV (.int 0)]) (a_cons (e_ifB (b_or (b_I (e_var rfl) (e_pi (C := fun _ => True) e_c trivial)) (b_I (e_var rfl) (e_pi (C := fun _ => True) (e_pow e_c e_c (by decide) (r := 1000000000000000000) (by decide)) trivial))) (x_abs (C := fun _ => True) (e_var rfl) fun _ _ => trivial) (e_pi e_c trivial)) (a_cons (e_var rfl) (a_cons e_c a_nil))) (by decide) σ H' _ f fun q vs H2 u2 b2 n2 => ?_
    obtain ⟨x, y, z, rfl, ⟨m1, _, e1⟩, ⟨m2, _, e2⟩, e3⟩ := AllP.three (BoxL.now (l := none) u2.lo b2)
    have e1 : x = .int m1 := e1
    have e2 : y = .int m2 := e2
    have e3 : z = .int 0 := e3
    subst e1 e2 e3
    have s := Same.trans u u2
    refine k q _ (Same.trans s (Same.new n2)) ?_ ⟨m1, m2, 0, upd_same⟩
    cases eq : H q with
    | none => rfl
    | some o =>
      have := s q o eq
      rw [n2] at this
      cases this
end
end K30

/-! text: KGrdA -/
set_option Elab.async false
set_option linter.all false
set_option maxRecDepth 100000
set_option maxHeartbeats 4000000
/-! own layer, ninth part: where no repr runs (guards), keyword calls, repr of a told course, the law's end -/
namespace K30
open PySem PySem.Spec PyProof.Rows L2 K30M
/-- a def that is called where no repr runs -/
structure FnG (P : Program) (w : World) (K : PySem.W.Frag) (mg : Str → Option Value) (base : Heap) (k : Nat) (f : Addr) (fd : FuncData) (ps : List Str) (sp : Sp) : Prop where
  arity : ∀ vs H Q E, sp vs H Q E → vs.length = ps.length
  go : ∀ (A : Around) (os : List Env) (s : Shared) (H : Hp) (ar : Args) (us : List Value) (vs : List V) (Q : VK) (E : XK), A.guards = some [] → Room k A → Env0 P w K mg base A os s H → BindsTo s fd ar (ps.zip us) → Vals vs us → sp vs H Q E →
    codeAny (model P w) A (.call (.ref f) ar) (CR CX0 os P w H s Q E) s
section
variable {P : Program} {w : World} {K : PySem.W.Frag} {mg : Str → Option Value} {base : Heap}
theorem fnG_mk {k : Nat} {f : Addr} {fd : FuncData} {x qual : Str} {pr : Arguments} {body : List Stmt} {sc : Scope} {N ps : List Str} {sp : Sp} (F : FunD K x qual pr body sc [] [] f fd) (S : FnScope N ps sc) (ar : ∀ vs H Q E, sp vs H Q E → vs.length = ps.length)
    (hb : ∀ (cdv : Value) (A : Around) (os : List Env) (s : Shared) (H : Hp) (vs : List V) (Q : VK) (E : XK), A.guards = some [] → Room k (A.deeper (envOfC qual sc s.heap.objs.size f cdv)) → sp vs H Q E →
      ∃ t, PSs (cxOf CX0 P w K mg base N qual sc f cdv A os s H E) body t ∧ t { nx := fun _ H' => Q .non H', rt := Q } (start N vs) H) : FnG P w K mg base (k + 1) f fd ps sp := by
  obtain ⟨oc, od, dV, kV, doc, pm, an, cdv, ct, osl, efd, lk, code, _, _⟩ := F.ex
  subst efd
  constructor
  · exact ar
  intro A os s H args us vs Q E gd room e0 bind rel wish
  have keep : ∀ b o, base.get? b = some o → s.heap.get? b = some o := fun b o e => (e0.bs b o e).1
  have kin := e0.mod.kin.keeps keep
  have kinds : ∀ z ∈ ps.zip us, sc.names.lookup z.1 = some .local ∨ (sc.names.lookup z.1 = some .cell ∧ ((cellsFrom (s.heap.objs.size + 1) sc.names []).lookup z.1).isSome = true) := by
    rintro ⟨n, v⟩ hz
    have hp : n ∈ ps := (List.of_mem_zip hz).1
    rcases S.par n hp with l | c
    · exact Or.inl l
    · exact Or.inr ⟨c, PySem.W.cellsFrom_some _ _ _ (Or.inl c)⟩
  refine codeAny_call_function room.depth (kin _ _ lk) rfl S.co S.gen rfl (PySem.W.codeRec_of kin code) (bind _ _ _ _ (wpAny_newFunctionEnv_cells S.kind kinds fun env ee s1 ic => ?_))
  subst ee
  refine ⟨(e0.mod.nolimit.keeps keep).keeps ic.toInCall.keep, codeAny_func ?_⟩
  obtain ⟨t, walk, holds⟩ := hb cdv A os s H vs Q E gd (room.deeper _) wish
  have I0 : Inv (cxOf CX0 P w K mg base N qual sc f cdv A os s H E) [] (start N vs) H s1 := inv_start S room.hd e0 (ar _ _ _ _ wish) rel ic
  refine wpAny_mono (walk.run [] s1 (start N vs) H _ I0 holds) (fun fl s2 h2 => ?_) fun e s2 h2 => h2
  match fl, h2 with
  | .ret u, ⟨v, _, H2, J, rv, q⟩ => exact ⟨v, H2, J.os, J.bare, J.base, J.hok, rv, q⟩
  | .next, ⟨_, H2, J, q⟩ => exact ⟨V.non, H2, J.os, J.bare, J.base, J.hok, rfl, q⟩
  | .brk, ⟨_, _, _, q⟩ => exact q.elim
  | .cont, ⟨_, _, _, q⟩ => exact q.elim
/-- .. with its names -/
structure FnGN (P : Program) (w : World) (K : PySem.W.Frag) (mg : Str → Option Value) (base : Heap) (k : Nat) (x : Str) (ps : List Str) (sp : Sp) : Prop where
  ex : ∃ (f : Addr) (fd : FuncData), FnG P w K mg base k f fd ps sp ∧ mg x = some (.ref f) ∧ PySem.W.keepIn K (.ref f) = true ∧ Binds K fd ps [] ∧ ∀ (s : Shared) (us : List Value), us.length = ps.length → BindsTo s fd ⟨us, []⟩ (ps.zip us)
/-- a def called by its one name -/
structure FnKw (P : Program) (w : World) (K : PySem.W.Frag) (mg : Str → Option Value) (base : Heap) (k : Nat) (x pn : Str) (sp : Sp) : Prop where
  ex : ∃ (f : Addr) (fd : FuncData), FnOk P w K mg base CX0 k f fd [pn] sp ∧ mg x = some (.ref f) ∧ PySem.W.keepIn K (.ref f) = true ∧ ∀ (s : Shared) (u : Value), BindsTo s fd ⟨[], [(pn, u)]⟩ [(pn, u)]
end
end K30

/-! text: KGrdB -/
set_option Elab.async false
set_option linter.all false
set_option maxRecDepth 100000
set_option maxHeartbeats 4000000
/-! own layer, ninth part: where no repr runs (guards), keyword calls, repr of a told course, the law's end -/
namespace K30
open PySem PySem.Spec PyProof.Rows L2 K30M
section
variable {X : Cx} {k : Nat} {x : Str} {ps : List Str} {sp : Sp} {p pos kp : Pos} {e : Expr} {es : List Expr} {t : TA} {te : TE} {pn : Str}
theorem run_ends {pins : List (Addr × Obj)} {σ : L2.St} {H : Hp} {s : Shared} {Q : VK} {f : Addr} {ar : Args} (I : Inv X pins σ H s) (h : codeAny (model X.prog X.w) X.A (.call (.ref f) ar) (CR CX0 X.stack X.prog X.w H s Q E0) s) : codeAny (model X.prog X.w) X.A (.call (.ref f) ar) (fun r s' => match r with
    | .ok (.ret u) => EP X pins σ Q u s'
    | .ok _ => False
    | .error e => X.xe e s') s := by
  refine codeAny_mono h fun r s' hq => ?_
  rcases r with er | fl
  · exact False.elim hq
  · cases fl with
    | ret u => exact I.after hq
    | next => exact False.elim hq
    | brk => exact False.elim hq
    | cont => exact False.elim hq
theorem pe_fnG (F : FnGN X.prog X.w X.K X.mg X.base k x ps sp) (gd : X.A.guards = some []) (hr : Room k X.A) (ha : PA X (e :: es) t) (hg : Gl X x := by rfl) (hdb : (x == ("__debug__" : Str)) = false := by decide)
    (he : starEach (e :: es) X.env = (false, eval e X.env) :: starEach es X.env := by rfl) (hpl : (backTo pos (starEach es X.env)).any (·.1) = false := by rfl) : PE X (.Call (.Name x p) (e :: es) [] pos) (tCall sp [] E0 t) := by
  obtain ⟨f, fd, G, hm, hk, hb, _⟩ := F.ex
  constructor
  intro pins s σ H Q I h
  refine wpAny_Call_Name_kw (ld_glob I hg hm (PySem.W.callWith_K (h₀ := X.base) I.ok.mod.kin hk (thn (ha.run pos pins s σ H _ I h) fun us s1 ⟨vs, H1, I1, r, q⟩ => ⟨I1.kIn, ?_⟩) he hpl) hdb)
  have r2 : Vals (vs ++ []) (us ++ []) := r.append .nil
  have n : (us ++ []).length = ps.length := by rw [← r2.length]; exact G.arity _ _ _ _ q
  refine wpAny_call (codeAny_mono (run_ends (pins := pins) (σ := σ) I1 (G.go X.A X.stack s1 H1 ⟨us, []⟩ (us ++ []) (vs ++ []) Q E0 gd hr I1.env0 (hb s1 us I1.kIn n) r2 q)) fun rr s2 hq => ?_)
  rcases rr with er | fl
  · exact hq
  · cases fl <;> exact hq
theorem pe_kw1 (F : FnKw X.prog X.w X.K X.mg X.base k x pn sp) (hr : Room k X.A) (ha : PE X e te) (hg : Gl X x := by rfl) (hdb : (x == ("__debug__" : Str)) = false := by decide) (hall : (backToKw pos (keywordEach [⟨some pn, e, kp⟩] X.env)).all (·.1.isSome) = true := by rfl)
    (hks : (backToKw pos (keywordEach [⟨some pn, e, kp⟩] X.env)).filterMap (·.1) = [pn] := by rfl) (hpl : ((backTo pos (starEach [] X.env)).any (·.1) || (backToKw pos (keywordEach [⟨some pn, e, kp⟩] X.env)).any (·.1.isNone)) = false := by rfl) :
    PE X (.Call (.Name x p) [] [⟨some pn, e, kp⟩] pos) (tCall sp [] E0 (tCons te tNil)) := by
  obtain ⟨f, fd, G, hm, hk, hb⟩ := F.ex
  constructor
  intro pins s σ H Q I h
  refine wpAny_Call_Name_kw (ld_glob I hg hm (PySem.W.callWith_KW0 (h₀ := X.base) I.ok.mod.kin hk hall (thn ((pk_cons (nm := some pn) (kpos := kp) ha pk_nil).run pos pins s σ H (fun zs H2 => sp (zs ++ []) H2 Q E0) I h) fun ws s2 ⟨zs, H2, I2, rz, q⟩ => ⟨I2.kIn, ?_⟩) hpl) hdb)
  rw [hks]
  have q : sp (zs ++ []) H2 Q E0 := q
  have n := G.len _ _ _ _ q
  rw [List.append_nil] at n q
  cases rz with
  | nil => cases n
  | cons r0 rr0 =>
    cases rr0 with
    | cons _ _ => cases n
    | nil =>
      refine wpAny_call (codeAny_mono (run_ends (pins := pins) (σ := σ) I2 (G.run X.A X.stack s2 H2 ⟨[], [(pn, _)]⟩ [_] [_] Q E0 hr I2.env0 (hb s2 _) (.cons r0 .nil) q)) fun rr s3 hq => ?_)
      rcases rr with er | fl
      · exact hq
      · cases fl <;> exact hq
end
end K30

/-! text: KGrdC -/
set_option Elab.async false
set_option linter.all false
set_option maxRecDepth 100000
set_option maxHeartbeats 4000000
/-! own layer, ninth part: where no repr runs (guards), keyword calls, repr of a told course, the law's end -/
namespace K30
open PySem PySem.Spec PyProof.Rows L2 K30M
/-! ### repr of a told course -/
def dO : Option (Int × Int) → PyData
  | none => .none
  | some c => .tuple [.int c.1, .int c.2]
theorem dp_o {K : PySem.W.Frag} {o : Option (Int × Int)} : ∀ v H, pO K o v H → Dp K H v (dO o) := fun v H h => by
  cases o with
  | none =>
    have e : v = .non := h
    rw [e]
    exact .non
  | some c =>
    obtain ⟨a, vs, e, s, p⟩ := h
    obtain ⟨x, y, rfl, e1, e2⟩ := AllP.two p
    have e1 : x = .int c.1 := e1
    have e2 : y = .int c.2 := e2
    subst e e1 e2
    exact .tup s (.cons (.int _) (.cons (.int _) .nil))
def SmallO (o : Option (Int × Int)) : Prop := ∀ c, o = some c → c.1.natAbs < 2 ^ 60 ∧ c.2.natAbs < 2 ^ 60
theorem log_lt {i : Int} (h : i.natAbs < 2 ^ 60) : i.natAbs.log2 < 1920 := by
  by_cases z : i.natAbs = 0
  · rw [z]
    decide
  · exact Nat.lt_trans ((Nat.log2_lt z).mpr h) (by decide)
theorem show_len {i : Int} (h : i.natAbs < 2 ^ 60) : (PyData.shown (.int i)).length ≤ 20 := by
  have e : PyData.shown (.int i) = Str.ofString (toString i) := by simp only [PyData.shown]
  have l := PySem.int_text_length_le10 (k := 19) (by decide) (show i.natAbs < 10 ^ 19 from Nat.lt_trans h (by decide))
  rw [e, PySem.ofString_length]
  omega
def rReprO (K : PySem.W.Frag) : List V → Hp → VK → Prop := fun vs H Q => ∃ (x : V) (o : Option (Int × Int)), vs = [x] ∧ pO K o x H ∧ SmallO o ∧ Q (.str (dO o).shown) H
theorem cr_repr {X : Cx} (gd : X.A.guards = some []) (hu : X.A.units + 64 < cLine) : CallR X (.builtin "repr") (rReprO X.K) := by
  intro pins s σ H xs us Q I r h
  obtain ⟨x, o, rfl, hx, so, q⟩ := h
  obtain ⟨u, rfl, ru⟩ := vals1 r
  cases o with
  | none =>
    have e : x = .non := hx
    subst e
    obtain rfl : u = Value.none := ru
    exact PySem.P.repr_of_none ⟨.str _, H, I.tok _, ⟨_, rfl⟩, q⟩
  | some c =>
    obtain ⟨as, rd⟩ := Dp.reads I _ _ _ (dp_o x H hx) ru
    obtain ⟨a, vs, e, _⟩ := hx
    subst e
    obtain rfl : u = Value.ref a := ru
    obtain ⟨s1, s2⟩ := so c rfl
    refine PySem.repr_of_reads' rd ?_ (fun z => ?_) gd ?_ (fun _ _ e => e) (fun h' t tk hk => ⟨.str _, H, I.kept (t' := tk) hk, ⟨_, rfl⟩, q⟩) ?_
    · simp [dO, PyData.showable, PyData.showableAll, log_lt s1, log_lt s2]
    · simp [dO, PyData.hasDict, PyData.hasDictAll] at z
    · have : (dO (some c)).depth ≤ 10 := by simp [dO, PyData.depth, PyData.depthAll]
      omega
    · have l1 := show_len s1
      have l2 := show_len s2
      have e : (dO (some c)).shown = tupleText [PyData.shown (.int c.1), PyData.shown (.int c.2)] := by simp only [dO, PyData.shown, PyData.shownAll]
      rw [e]
      have l3 := tupleText_len_le [PyData.shown (.int c.1), PyData.shown (.int c.2)]
      have e2 : (([PyData.shown (.int c.1), PyData.shown (.int c.2)] : List Str).map (·.length)).sum = (PyData.shown (.int c.1)).length + ((PyData.shown (.int c.2)).length + 0) := rfl
      rw [e2] at l3
      have e3 : ([PyData.shown (.int c.1), PyData.shown (.int c.2)] : List Str).length = 2 := rfl
      rw [e3] at l3
      rw [sizeLine_eq]
      omega
theorem e_repr {l : Option Addr} {K : PySem.W.Frag} {Γ : Ga} {te : TE} {o : Option (Int × Int)} (h : EvG l te Γ (pO K o)) (so : SmallO o) : EvG l (tCB (rReprO K) (tCons te tNil)) Γ (pV (.str (dO o).shown)) :=
  e_cb (Ps := [pO K o]) (fun vs H Q p k => by
    obtain ⟨x, rfl, hx⟩ := AllP.one p
    exact ⟨x, o, rfl, hx, so, k _ H (Same.refl H) rfl⟩) (a_cons h a_nil)
theorem shaped_o (o : Option (Int × Int)) : SeqAt.shaped (dO o) = true := by
  cases o <;> rfl
theorem eqv_o (o u : Option (Int × Int)) : PyData.eqv (dO o) (dO u) = decide (o = u) := by
  cases o with
  | none =>
    cases u with
    | none => rfl
    | some c => rfl
  | some c =>
    cases u with
    | none => rfl
    | some d =>
      have e : PyData.eqv (dO (some c)) (dO (some d)) = (c.1 == d.1 && (c.2 == d.2 && true)) := by simp only [dO, PyData.eqv, PyData.eqvAll]
      rw [e]
      obtain ⟨a, b⟩ := c
      obtain ⟨x, y⟩ := d
      by_cases h1 : a = x <;> by_cases h2 : b = y <;> simp [h1, h2]
end K30

/-! text: KRight -/
set_option Elab.async false
set_option linter.all false
set_option maxRecDepth 100000
set_option maxHeartbeats 4000000
namespace K30
open PySem PySem.Spec PyProof.Rows L2 K30M
section
variable {P : Program} {w : World} {K : PySem.W.Frag} {mg : Str → Option Value} {base : Heap}
/-! rules for the law's own loop -/
theorem e_ninW {l : Option Addr} {Γ : Ga} {f : Fv} {ta : TE} {tr : TA} (ha : EvG l ta Γ (pWord f)) (hb : EvA l tr Γ [pV (.str "round"), pV (.str "backward")]) : EvG l (tOp (rIn K true) ta (tLst tr)) Γ (pV (.bl (!decide (f.N < f.W * f.W)))) := fun σ H Q fi q =>
  ha σ H _ fi fun u H1 u1 b1 => hb σ H1 _ (fi.up u1) fun vs H2 u2 b2 => by
    obtain ⟨s, hs, e⟩ := Box.now u1.lo b1
    have e : u = .str s := e
    have ev := vals_of (xs := [.str "round", .str "backward"]) (BoxL.now u2.lo b2)
    subst e ev
    refine ⟨Nat.le_of_lt (small1000 (by simp)), fun p np => ?_⟩
    have u3 := Up.same u2.lo (Same.new (o := HO.lst [.str "round", .str "backward"]) np)
    refine ⟨p, _, rfl, .inl (.inl (.inl upd_same)), rfl, rfl, q _ _ ((u1.trans u2).trans u3) (box_of u3.lo ?_)⟩
    show V.bl _ = V.bl _
    rw [← hs]
    rfl
theorem r_forR {l : Option Addr} {H0 : Hp} {D : Ends} {Γ : Ga} {ta : TA} {tb t : TS} {i n : Nat} (hs : EvA l ta Γ [pV (.int (n : Int))]) (hn : n ≤ 1000) (step : ∀ H1, Up l H0 H1 → ∀ k : Nat, k < n → TurnF l H1 tb { D with nx := t D } (t D) (pt Γ i (some (pV (.int (k : Int))))) Γ) (after : Run l H0 t D Γ) : Run l H0 (tSeq (tFor (iRng1 ta) (gName i) tb) t) D Γ := fun σ H u f =>
  hs σ H _ f fun vs H1 u1 b1 => by
    obtain ⟨x, rfl, e⟩ := AllP.one (BoxL.now u1.lo b1)
    have e : x = .int (n : Int) := e
    subst e
    refine ⟨n, rfl, by omega, by omega, for_range (lo := 0) (n := (n : Int).toNat) (fun k σ' H' => Up l H0 H' ∧ Up l H1 H' ∧ Fits l Γ σ' H') ⟨u.trans u1, Up.refl u1.lo, f.up u1⟩ (fun k σ' H' hk hp => ?_) fun σ' H' hp => after σ' H' hp.1 hp.2.2⟩
    have e : (0 : Int) + (k : Int) = (k : Int) := Int.zero_add _
    rw [e]
    exact step H1 (u.trans u1) k (by omega) _ (fun σ2 H2 u2 f2 => ⟨(u.trans u1).trans u2, u2, f2⟩) _ H' hp.2.1 (hp.2.2.put (box_of hp.2.1.lo rfl))
theorem e_isT {l : Option Addr} {Γ : Ga} {ta tb : TE} {x y : Bool} (ha : EvG l ta Γ (pV (.bl x))) (hb : EvG l tb Γ (pV (.bl y))) : EvG l (tOp rNotB ta tb) Γ (pV (.bl (!decide (x = y)))) :=
  e_op (P := pV (.bl x)) (P' := pV (.bl y)) (fun u w H Q hu hw k => ⟨x, y, hu, hw, k _ H (Same.refl H) rfl⟩) ha hb
theorem dp_unit : ∀ v H, pT K [] v H → Dp K H v (.tuple []) := fun v H ⟨a, vs, e, s, p⟩ => by
  have := AllP.none p
  subst e this
  exact .tup s .nil
theorem e_neU {l : Option Addr} {Γ : Ga} {ta tb : TE} (ha : EvG l ta Γ (pT K [])) (hb : EvG l tb Γ (pT K [])) : EvG l (tOp (rNeD K) ta tb) Γ (pV (.bl false)) := e_bl (e_neD dp_unit dp_unit rfl rfl ha hb) rfl
theorem e_course_atX {l : Option Addr} {Γ : Ga} {t0 t1 : TE} {g : Fv} (h0 : EvG l t0 Γ (pFive K g)) (h1 : EvG l t1 Γ (pHX K)) : EvG l (tCall (sp_course_at K) [] E0 (tCons t0 (tCons t1 tNil))) Γ (pX (fun o => ∃ h : Rat × Rat, h.1 * h.1 + h.2 * h.2 = 1 ∧ o = K30M.shown g h) (pO K)) :=
  e_call (Ps := [pFive K g, pHX K]) (fun vs H Q pp kk => by
    obtain ⟨x, y, rfl, e1, h, c, e2⟩ := AllP.two pp
    exact ⟨g, h.1, h.2, c.1, ⟨e1, e2, trivial⟩, fun v H' s p => kk v H' s ⟨_, ⟨h, c.1, rfl⟩, p⟩⟩) (a_cons h0 (a_cons h1 a_nil))
theorem e_eqO {l : Option Addr} {Γ : Ga} {ta tb : TE} {C : Option (Int × Int) → Prop} {u : Option (Int × Int)} (n : ∀ o, C o → o ≠ u) (ha : EvG l ta Γ (pX C (pO K))) (hb : EvG l tb Γ (pO K u)) : EvG l (tOp (rEqD K) ta tb) Γ (pV (.bl false)) :=
  e_op (P := pX C (pO K)) (P' := pO K u) (fun x y H Q hx hy k => by
    obtain ⟨o, c, p⟩ := hx
    refine ⟨dO o, dO u, dp_o x H p, dp_o y H hy, shaped_o o, shaped_o u, k _ H (Same.refl H) ?_⟩
    show V.bl _ = V.bl _
    rw [eqv_o, decide_eq_false (n o c)]) ha hb
theorem e_tO {l : Option Addr} {Γ : Ga} {te : TE} {c : Int × Int} (h : EvG l te Γ (pO K (some c))) : EvG l te Γ (pW2 K c.1 c.2) := h
theorem ok_kw_unshown (T : Txt K mg) : FnKw P w K mg base 8 "unshown_course" "five" (sp_unshown_course K) := by
  obtain ⟨fd, F⟩ := T.says.def_ 47 (d := d_unshown_course) rfl
  refine ⟨_, fd, FunD.ok F sc_unshown_course (fun vs H Q E h => len_unshown_course h) (fun cdv A outer s H vs Q E hr h => ?_), T.glo 45 rfl, F.kp, fun s u => ?_⟩
  · obtain ⟨g, hc, hp, k⟩ := h
    refine ⟨_, PSs.nox ((pss_cons (ps_expr (pe_fn (ok_check_five T) (hr.mono (by decide)) (pa_cons (pv 0) pa_nil)))
      (pss_one (ps_ret (pe_fn (ok_some_unshown T) (hr.mono (by decide)) (pa_cons (pv 0) pa_nil)))))), ?_⟩
    refine (?_ : Run none H _ _ ([some (pFive K g)] : Ga)) _ H (Same.refl H) (fits0 hp trivial rfl)
    exact r_drop (e_check_five (e_var rfl)) (r_done (e_some_unshown (e_var rfl)) k)
  · obtain ⟨oc, od, dV, kV, doc, pm, an, cdv, ct, osl, rfl, lk, hcd, hD, hK⟩ := F.ex
    rcases hD with ⟨_, rfl⟩ | ⟨e, _⟩
    · exact BindsTo.of_eq rfl
    · exact absurd rfl e
/-! law_right -/
def sp_law_right (K : PySem.W.Frag) : Sp := fun vs H Q _ => ∃ (a : Addr) , (True) ∧ Lode a H ∧ AllP [pV (.ref a)] vs H ∧ ∀ v H', Up (some a) H H' → (pV (.bl true) : Pd) v H' → Q v H'
theorem len_law_right {vs : List V} {H : Hp} {Q : VK} {E : XK} (h : sp_law_right K vs H Q E) : vs.length = 1 := by
  obtain ⟨_, _, _, pp, _⟩ := h
  exact AllP.len pp
theorem e_law_right {a : Addr} {Γ : Ga} {t0 : TE}  (h0 : EvG (some a) t0 Γ (pV (.ref a))) : EvG (some a) (tCall (sp_law_right K) [] E0 (tCons t0 tNil)) Γ (pV (.bl true)) := e_callL (fun _ _ _ lo pp kk => ⟨a, trivial, lo, pp, kk⟩) (a_cons h0 a_nil)
theorem sc_law_right : FnScope ["_law_lode_here", "_law_lap", "_law_five", "_law_told", "_law_is_due", "_law_turn_here", "_law_back_here"] ["_law_lode_here"] (defScope s_law_right) := ⟨rfl, rfl, rfl, by decide +kernel, rfl, by decide +kernel, by decide +kernel⟩
theorem fnG_top {k : Nat} {x : Str} {st : Stmt} {N ps : List Str} {sp : Sp} (T : Txt K mg) (i j : Nat) (hd : fn[i]? = some ⟨(x, none), x, x, defArgs st, defBody st, defScope st, [], []⟩) (hg : fa[j]? = some (.glo x)) (S : FnScope N ps (defScope st)) (ar : ∀ vs H Q E, sp vs H Q E → vs.length = ps.length)
    (hb : ∀ (kV doc pm : Value) (an : Option Addr) (cdv ct : Value) (us : List Value), us.length = ps.length → bindArgs (PySem.W.fnOf x x (defArgs st) (defBody st) (defScope st) .none kV doc pm an cdv ct) ⟨us, []⟩ = pure (ps.zip us))
    (body : ∀ (f : Addr) (cdv : Value) (A : Around) (os : List Env) (s : Shared) (H : Hp) (vs : List V) (Q : VK) (E : XK), (cxOf CX0 P w K mg base N x (defScope st) f cdv A os s H E).nox.A.guards = some [] → Room k (A.deeper (envOfC x (defScope st) s.heap.objs.size f cdv)) → sp vs H Q E →
      ∃ t, PSs (cxOf CX0 P w K mg base N x (defScope st) f cdv A os s H E).nox (defBody st) t ∧ t { nx := fun _ H' => Q .non H', rt := Q } (start N vs) H) : FnGN P w K mg base (k + 1) x ps sp := by
  obtain ⟨fd, F⟩ := T.says.def_ i hd
  refine ⟨_, fd, fnG_mk F S ar (fun cdv A os s H vs Q E gd hr h => ?_), T.glo j hg, F.kp, FunD.bindsN F hb, FunD.bindsA F hb⟩
  obtain ⟨t, h1, h2⟩ := body _ cdv A os s H vs Q E gd hr h
  exact ⟨t, h1.nox, h2⟩
theorem ok_law_right (T : Txt K mg) : FnGN P w K mg base 9 "_law_right" ["_law_lode_here"] (sp_law_right K) := by
  refine fnG_top T 84 82 rfl rfl sc_law_right (fun vs H Q E h => len_law_right h) (fun _ _ _ _ _ _ us hl => match us, hl with | [_], _ => rfl) (fun f cdv A outer s H vs Q E gd hr h => ?_)
  obtain ⟨a, hc, lo, hp, k⟩ := h
  refine ⟨_, ((pss_cons (ps_for PassesOwn.never rfl (pi_range1 rfl (T.free 108 rfl) (pa_cons pe_int pa_nil)) (pg_name (i := 1) sc_law_right.nd rfl (by first | exact Or.inl rfl | exact Or.inr rfl)) (pss_cons (ps_set (i := 2) sc_law_right.nd rfl (Or.inl rfl) (pe_fn (ok_law_kind_five T) (hr.mono (by decide)) (pa_cons (pv 0) pa_nil)))
      (pss_cons (ps_par (i := 3) (j := 4) rfl sc_law_right.nd rfl rfl (by decide) rfl rfl (pa_cons (pe_fn (ok_unshown_course T) (hr.mono (by decide)) (pa_cons (pv 2) pa_nil)) (pa_cons (pe_cmpR op_notIn_seq (pe_fn (ok_law_wheel T) (hr.mono (by decide)) (pa_cons (pv 2) pa_nil)) (pe_lst (pa_cons pe_str (pa_cons pe_str pa_nil))) (by rfl)) pa_nil)) (by rfl))
      (pss_cons (ps_if (PW.pt (pw_or (pt_cmpR op_ne (pe_callB (cr_repr gd hr.units) rfl (T.free 109 rfl) (by decide +kernel) (pa_cons (pe_kw1 (ok_kw_unshown T) (hr.mono (by decide)) (pv 2)) pa_nil)) (pe_callB (cr_repr gd hr.units) rfl (T.free 109 rfl) (by decide +kernel) (pa_cons (pv 3) pa_nil)) (nomark _)) (pw_or1 (pt_cmpR op_ne (pe_cmpR op_notN (pv 3) pe_non (nomark _)) (pv 4) (nomark _))))) (pss_one (ps_ret pe_bl)) pss_nil)
      (pss_one (ps_if (pt_cmpR op_notN (pv 3) pe_non (nomark _)) (pss_cons (ps_if (PW.pt (pw_or (pt_cmpR op_notBl (pe_fn (ok_is_course T) (hr.mono (by decide)) (pa_cons (pv 3) pa_nil)) pe_bl (nomark _)) (pw_or (pt_cmpR (op_neD hr.units) (pe_fn (ok_law_course_spots T) (hr.mono (by decide)) (pa_cons (pv 2) (pa_cons (pv 3) pa_nil))) (pe_tup pa_nil) (nomark _)) (pw_or1 (pt_cmpR (op_neD hr.units) (pe_fn (ok_headings_of T) (hr.mono (by decide)) (pa_cons (pv 2) (pa_cons (pv 3) pa_nil))) (pe_tup pa_nil) (nomark _)))))) (pss_one (ps_ret pe_bl)) pss_nil)
      (pss_cons (ps_for PassesOwn.never rfl (pi_range1 rfl (T.free 108 rfl) (pa_cons pe_int pa_nil)) (pg_name (i := 5) sc_law_right.nd rfl (by first | exact Or.inl rfl | exact Or.inr rfl)) (pss_one (ps_if (pt_cmpR (op_eqD hr.units) (pe_fn (ok_course_at T) (hr.mono (by decide)) (pa_cons (pv 2) (pa_cons (pe_fn (ok_law_some_heading T) (hr.mono (by decide)) (pa_cons (pv 0) pa_nil)) pa_nil))) (pv 3) (nomark _)) (pss_one (ps_ret pe_bl)) pss_nil)))
      (pss_cons (ps_set (i := 6) sc_law_right.nd rfl (Or.inl rfl) (pe_tup (pa_cons (pe_ix ix_tup (pv 2) pe_int (fun _ _ => rfl)) (pa_cons (pe_fn (ok_law_back T) (hr.mono (by decide)) (pa_cons (pe_ix ix_tup (pv 2) pe_int (fun _ _ => rfl)) pa_nil)) (pa_cons (pe_fn (ok_law_back T) (hr.mono (by decide)) (pa_cons (pe_ix ix_tup (pv 2) pe_int (fun _ _ => rfl)) pa_nil)) (pa_cons (pe_ix ix_tup (pv 2) pe_int (fun _ _ => rfl)) (pa_cons (pe_ix ix_tup (pv 2) pe_int (fun _ _ => rfl)) pa_nil)))))))
      (pss_one (ps_if (pt_cmpR (op_neD hr.units) (pe_fn (ok_headings_of T) (hr.mono (by decide)) (pa_cons (pv 6) (pa_cons (pe_tup (pa_cons (pe_op op_sub pe_int (pe_ix ix_tup (pv 3) pe_int (fun _ _ => rfl))) (pa_cons (pe_op op_sub pe_int (pe_ix ix_tup (pv 3) pe_int (fun _ _ => rfl))) pa_nil))) pa_nil))) (pe_tup pa_nil) (nomark _)) (pss_one (ps_ret pe_bl)) pss_nil))))) pss_nil))))))
      (pss_one (ps_ret pe_bl)))), ?_⟩
  refine (?_ : Run (some a) H _ _ ([some (pV (.ref a)), none, none, none, none, none, none] : Ga)) _ H (Up.refl (l := some a) lo) (fits0 (l := some a) hp lo rfl)
  refine r_forR (n := 3) (a_cons e_c a_nil) (by decide) (fun H1 _ kk hk N hN => ?_) (r_doneL e_c k)
  refine r_setX (fun x => inferInstance) (e_law_kind_five (e_var rfl)) fun g tame => ?_
  refine r_weak (Δ := [some (pV (.ref a)), none, some (pFive K g), none, none, none, none]) (by repeat first | exact trivial | refine ⟨rfl, ?_⟩) ?_
  have hso : SmallO (told g) ∧ (!decide (g.N < g.W * g.W)) = (told g).isSome ∧ ∀ c, told g = some c → ToldOk g c.1 c.2 := by
    by_cases hN : g.N < g.W * g.W
    · have e : told g = none := by
        unfold told
        rw [if_pos hN]
      rw [e, decide_eq_true hN]
      exact ⟨(fun c z => by cases z), rfl, (fun c z => by cases z)⟩
    · obtain ⟨p, q, e, ok, sz⟩ := told_spec g hN
      rw [e, decide_eq_false hN]
      exact ⟨(fun c z => by cases z; exact sz tame), rfl, (fun c z => by cases z; exact ok)⟩
  obtain ⟨small, due, okc⟩ := hso
  generalize ho : told g = o at small due okc
  refine r_par (a_cons (P := pO K o) (e_none (e_to (e_unshown_course (e_var rfl)) (congrArg (pO K) ho))) (a_cons (P := pV (.bl o.isSome)) (e_bl (e_ninW (e_law_wheel (e_var rfl)) (a_cons e_c (a_cons e_c a_nil))) due) a_nil)) ?_
  refine r_weak (Δ := [some (pV (.ref a)), none, some (pFive K g), some (pO K o), some (pV (.bl o.isSome)), none, none]) (by repeat first | exact trivial | refine ⟨rfl, ?_⟩) ?_
  refine r_ifF (t_or (b := false) (c := false) (t_of (e_bl (e_ne rfl (e_repr (K := K) (e_none (e_to (e_unshown_course (e_var rfl)) (congrArg (pO K) ho))) small) (e_repr (K := K) (e_var rfl) small)) (by rw [decide_eq_true rfl]; rfl))) fun _ => t_of (e_bl (e_ne rfl (e_notN (K := K) (e_var rfl)) (e_var rfl)) (by rw [decide_eq_true rfl]; rfl))) ?_
  refine r_if0 (t_of (e_notN (K := K) (e_var rfl))) (fun hb => ?_) (fun _ σ H' u f => hN σ H' u (f.weak (by repeat first | exact trivial | refine ⟨rfl, ?_⟩)))
  obtain ⟨c, rfl⟩ := Option.isSome_iff_exists.mp hb
  obtain ⟨s1, s2⟩ := small c rfl
  have tok := okc c rfl
  have tb := tok.back
  have e0 : ∀ {i : Int}, 0 - i = -i := fun {i} => Int.zero_sub i
  refine r_ifF (t_or (b := false) (c := false) (t_of (e_bl (e_isT (e_is_course (e_tO (e_var rfl)) tok.red) e_c) rfl)) fun _ => t_or (b := false) (c := false) (t_of (e_neU (e_none (e_law_course_spots (e_var rfl) (e_tO (e_var rfl)) ⟨tok.hide, tame, s1, s2⟩)) (e_tup (K := K) a_nil))) fun _ => t_of (e_neU (e_none (e_headings_of (e_var rfl) (e_tO (e_var rfl)) ⟨tok.red, tok.hide, tame, s1, s2⟩)) (e_tup (K := K) a_nil))) ?_
  refine r_forR (n := 3) (a_cons e_c a_nil) (by decide) (fun H2 _ kk2 hk2 N2 hN2 => ?_) ?_
  · refine r_if0 (t_of (e_eqO (K := K) (u := some c) ?_ (e_course_atX (e_var rfl) (e_law_some_heading (e_var rfl))) (e_var rfl))) (fun z => by cases z) (fun _ σ H' u f => hN2 σ H' u (f.weak (by repeat first | exact trivial | refine ⟨rfl, ?_⟩)))
    rintro _ ⟨h, hu, rfl⟩
    exact tok.not hu
  · refine r_set (P := pFive K ⟨g.a, -g.b, -g.c, g.d, g.e⟩) (e_tup (K := K) (a_cons (e_at 0 (e_var rfl) rfl) (a_cons (e_law_back (e_at 1 (e_var rfl) rfl)) (a_cons (e_law_back (e_at 2 (e_var rfl) rfl)) (a_cons (e_at 3 (e_var rfl) rfl) (a_cons (e_at 4 (e_var rfl) rfl) a_nil)))))) ?_
    refine r_if0 (t_of (e_neU (e_none (e_headings_of (p := -c.1) (q := -c.2) (e_var rfl) (e_tup (K := K) (a_cons (e_int (e_I0 e_c (e_at 0 (e_tO (e_var rfl)) rfl)) e0) (a_cons (e_int (e_I0 e_c (e_at 1 (e_tO (e_var rfl)) rfl)) e0) a_nil))) ⟨tb.red, tb.hide, tame.back, by rw [Int.natAbs_neg]; exact s1, by rw [Int.natAbs_neg]; exact s2⟩)) (e_tup (K := K) a_nil))) (fun z => by cases z) (fun _ σ H' u f => hN σ H' u (f.weak (by repeat first | exact trivial | refine ⟨rfl, ?_⟩)))
end
end K30

/-! text: KLaw -/
set_option Elab.async false
set_option linter.all false
set_option maxRecDepth 100000
set_option maxHeartbeats 4000000
namespace K30
open PySem PySem.Spec PyProof.Rows L2 K30M
section
variable {P : Program} {w : World} {K : PySem.W.Frag} {mg : Str → Option Value} {base : Heap}
theorem e_max {l : Option Addr} {Γ : Ga} {ta tb : TE} {m n : Int} (ha : EvG l ta Γ (pV (.int m))) (hb : EvG l tb Γ (pV (.int n))) : EvG l (tCB (fun xs H Q => ∃ i j, xs = [.int i, .int j] ∧ Q (.int (if j > i then j else i)) H) (tCons ta (tCons tb tNil))) Γ (pV (.int (if n > m then n else m))) :=
  e_cb (Ps := [pV (.int m), pV (.int n)]) (fun vs H Q p k => by
    obtain ⟨x, y, rfl, e1, e2⟩ := AllP.two p
    have e1 : x = .int m := e1
    have e2 : y = .int n := e2
    subst e1 e2
    exact ⟨m, n, rfl, k _ H (Same.refl H) rfl⟩) (a_cons ha (a_cons hb a_nil))
theorem e_lcR {Γ : Ga} {R : Pd} {ta : TA} {telt : TE} {g : TG} {vs : List Nat} {n : Nat} [mR : MoT K R] (hn : n ≤ 1000) (hs : EvA none ta Γ [pV (.int (n : Int))]) (h : ∀ k : Nat, k < n → Turn1 g telt vs Γ (pV (.int (k : Int))) R) : EvG none (tLc (iRng1 ta) g tYes telt vs) Γ (pL K (List.replicate n R)) := fun σ H0 Q f q =>
  hs σ H0 _ f fun ws H1 u1 b1 => by
    obtain ⟨x, rfl, e⟩ := AllP.one (BoxL.now u1.lo b1)
    have e : x = .int (n : Int) := e
    subst e
    have m : MoTA K (List.replicate n R) := ⟨fun P hP => by
      rw [List.eq_of_mem_replicate hP]
      exact mR⟩
    refine ⟨n, rfl, by omega, by omega, fun D nD => lc_range (lo := 0) (n := (n : Int).toNat) (fun i H => Same H1 H ∧ ∃ acc, H D = some (.lst acc) ∧ AllP ((List.replicate n R).take i) acc H) ⟨Same.new nD, [], upd_same, trivial⟩ (fun i H hi hp => ?_) fun H hp => ?_⟩
    · obtain ⟨s, acc, eD, hacc⟩ := hp
      have hi : i < n := by omega
      have hR : (List.replicate n R)[i]? = some R := by rw [List.getElem?_replicate, if_pos hi]
      have e : (0 : Int) + (i : Int) = (i : Int) := Int.zero_add _
      rw [e]
      exact lc_turn (K := K) (Rs := List.replicate n R) (f.up u1) hR (h i hi) nD s (fun H' u' => rfl) eD hacc (by rw [List.length_replicate]; exact hn)
    · exact lc_end (K := K) (Rs := List.replicate n R) (H1 := H1) (n := (n : Int).toNat) (by rw [List.length_replicate]; omega) (fun v H' u b => q v H' (Same.trans u1 u) b) hp
/-- a lode laid and drawn from -/
theorem e_right {Γ : Ga} {ns : List Int} {k : Nat} {i j : Nat} (hn : ns.length ≤ 63) (hk : k ≤ 3) (h0 : gt Γ i = some (pInts K ns)) (h1 : gt Γ j = some (pV (.int (k : Int)))) : EvG none (tCall (sp_law_right K) [] E0 (tCons (tCall (sp_law_lode K) [] E0 (tCons (tVar i) (tCons (tVar j) tNil))) tNil)) Γ (pV (.bl true)) := fun σ H Q f q => by
    show tCons (tVar i) (tCons (tVar j) tNil) σ H (fun vs H1 => sp_law_lode K (vs ++ []) H1 (fun x H2 => sp_law_right K ([x] ++ []) H2 Q E0) E0)
    refine (a_cons (l := none) (e_var h0) (a_cons (e_var h1) a_nil)) σ H _ f fun vs H1 u1 b1 => ?_
    rw [List.append_nil]
    refine ⟨ns, k, ⟨hn, hk⟩, BoxL.now (l := none) trivial b1, fun p H2 s2 np lo => ⟨p, trivial, lo, ⟨rfl, trivial⟩, fun v H3 u3 e => ?_⟩⟩
    refine q v H3 (fun b o eb => ?_) (box_of (l := none) trivial e)
    have e1 := u1 b o eb
    have ne : b ≠ p := fun z => by
      rw [z, np] at e1
      cases e1
    exact u3.2 b o ne (s2 b o e1)
/-! law -/
def sp_law (K : PySem.W.Frag) : Sp := fun vs H Q _ => ∃ (ns : List Int), (ns.length ≤ 63) ∧ AllP [pInts K ns] vs H ∧ ∀ v H', Same H H' → (pV (.bl true) : Pd) v H' → Q v H'
theorem len_law {vs : List V} {H : Hp} {Q : VK} {E : XK} (h : sp_law K vs H Q E) : vs.length = 1 := by
  obtain ⟨_, _, pp, _⟩ := h
  exact AllP.len pp
theorem e_law {Γ : Ga} {t0 : TE} {ns : List Int}  (h0 : EvG none t0 Γ (pInts K ns)) (hc : ns.length ≤ 63) : EvG none (tCall (sp_law K) [] E0 (tCons t0 tNil)) Γ (pV (.bl true)) := e_call (fun _ _ _ pp kk => ⟨ns, hc, pp, kk⟩) (a_cons h0 a_nil)
theorem sc_law : FnScope ["_law_script", "_law_lap"] ["_law_script"] (defScope s_law) := ⟨rfl, rfl, rfl, by decide +kernel, rfl, by decide +kernel, by decide +kernel⟩
theorem ok_law (T : Txt K mg) : FnGN P w K mg base 10 "law" ["_law_script"] (sp_law K) := by
  refine fnG_top T 85 83 rfl rfl sc_law (fun vs H Q E h => len_law h) (fun _ _ _ _ _ _ us hl => match us, hl with | [_], _ => rfl) (fun f cdv A outer s H vs Q E gd hr h => ?_)
  obtain ⟨ns, hc, hp, k⟩ := h
  refine ⟨_, ((pss_one (ps_ret (pe_callB (cr_all rfl) rfl (T.free 100 rfl) (by decide +kernel) (pa_cons (pe_lc (own := [("_law_lap", 1)]) (g := (gName 1)) (tt := tYes) rfl sc_law.nd  (pi_range1 rfl (T.free 108 rfl) (pa_cons (pe_callB (call_max2 rfl) rfl (T.free 106 rfl) (by decide +kernel) (pa_cons pe_int (pa_cons (pe_callB (call_min2 rfl) rfl (T.free 107 rfl) (by decide +kernel) (pa_cons (pe_callB call_len_seq rfl (T.free 105 rfl) (by decide +kernel) (pa_cons (pv 0) pa_nil)) (pa_cons pe_int pa_nil))) pa_nil))) pa_nil)) (blkOk_by (own := [("_law_lap", 1)]) (N := ["_law_script", "_law_lap"]) (sc := defScope s_law) (by decide +kernel)) (fun _ _ _ _ _ => (pg_name (i := 1) sc_law.nd rfl (by first | exact Or.inl rfl | exact Or.inr rfl))) (fun _ _ _ _ _ => pts_nil) (fun _ _ _ _ _ => (pe_fnG (ok_law_right T) gd (hr.mono (by decide)) (pa_cons (pe_fn (ok_law_lode T) (hr.mono (by decide)) (pa_cons (pv 0) (pa_cons (pv 1) pa_nil))) pa_nil)))) pa_nil))))), ?_⟩
  refine (?_ : Run none H _ _ ([some (pInts K ns), none] : Ga)) _ H (Same.refl H) (fits0 hp trivial rfl)
  have key : ∃ n : Nat, n ≤ 3 ∧ (if (if (3 : Int) < (ns.length : Int) then (3 : Int) else (ns.length : Int)) > 2 then (if (3 : Int) < (ns.length : Int) then (3 : Int) else (ns.length : Int)) else 2) = (n : Int) := by
    by_cases h1 : (3 : Int) < (ns.length : Int)
    · rw [if_pos h1]
      exact ⟨3, by omega, by decide⟩
    · rw [if_neg h1]
      by_cases h2 : (ns.length : Int) > 2
      · rw [if_pos h2]
        exact ⟨ns.length, by omega, rfl⟩
      · rw [if_neg h2]
        exact ⟨2, by omega, rfl⟩
  obtain ⟨n, hn, en⟩ := key
  refine r_done (e_bl (e_all (K := K) (bs := List.replicate n true) (by rw [List.map_replicate]) (e_lcR (K := K) (R := pV (.bl true)) (n := n) (by omega) (a_cons (e_int (e_max e_c (e_min (e_lenI (l := none) (K := K) (e_var rfl)) e_c)) en) a_nil) fun kk hk => turn1_name (e_right hc (by omega) rfl rfl))) ?_) k
  simp
end
end K30

/-! text: KEnd -/
set_option Elab.async false
set_option linter.all false
set_option maxRecDepth 100000
set_option maxHeartbeats 4000000
/-! the end: the law's call behind the head -/
namespace K30
open PySem PySem.Spec PyProof.Rows L2 K30M
/-- the script as the only thing known, and the heap without it -/
theorem enter {P : Program} {w : World} {K : PySem.W.Frag} {mg mb : Str → Option Value} {k : Nat} {f a : Addr} {nm x : Str} {sp : Sp} {s1 : Shared} {vs : List Value} {ns : List Int} (KX : K.In s1.heap) (hns : s1.heap.Ns mainGlobals mg) (hb : s1.heap.Ns builtinsNs mb)
    (hbb : ∀ x : Str, x ≠ "__name__" → mb x = bootBuiltins x) (nl : s1.heap.NoLimit) (hg : s1.gens = #[]) (ha : s1.heap.get? a = some { cls := .type "list", data := .seq vs.toArray }) (hi : IntsAre vs ns) (hl : ns.length ≤ sizeLine) (room : Room k callerA)
    (F : ∀ base : Heap, FnGN P w K mg base k nm [x] sp) (hm : mg nm = some (.ref f)) (wish : ∀ H : Hp, SqL K H a (ns.map V.int) → sp [.ref a] H (fun v _ => v = .bl true) fun _ _ _ => False) :
    codeAny (model P w) callerA (.call (.ref f) ⟨[.ref a], []⟩) (fun r s' => r = .ok (.ret (.bool true)) ∧ OldK s1.heap s'.heap ∧ s'.os = s1.os ∧ AllBare s'.gens) s1 := by
  have vals := vals_ints hi
  have main : ∀ H : Hp, (∀ b u, H b = some u → b = a ∧ K.lookup a = none ∧ u = .frz { cls := .type "list", data := .seq vs.toArray } (.lst (ns.map V.int))) → SqL K H a (ns.map V.int) → HOk P w H s1.heap →
      codeAny (model P w) callerA (.call (.ref f) ⟨[.ref a], []⟩) (fun r s' => r = .ok (.ret (.bool true)) ∧ OldK s1.heap s'.heap ∧ s'.os = s1.os ∧ AllBare s'.gens) s1 := by
    intro H only seq ok
    have stays : ∀ {b : Addr} {o : Obj}, s1.heap.get? b = some o → (b = a → K.lookup a ≠ none ∨ ∃ es ep, o.data = .dict es ep) → (hidT s1.heap H).get? b = some o := fun {b o} e why => hidT_get e (by
      cases q : H b with
      | none => rfl
      | some u =>
        obtain ⟨eb, lk, _⟩ := only b u q
        rcases why eb with n | ⟨es, ep, d⟩
        · exact absurd lk n
        · rw [eb, ha] at e
          cases e
          cases (show Data.seq vs.toArray _ = Data.dict es ep from d))
    have ns' : ∀ {b : Addr} {m : Str → Option Value}, s1.heap.Ns b m → (hidT s1.heap H).Ns b m := fun ⟨o, es, ep, e, d, r⟩ => ⟨o, es, ep, stays e fun _ => .inr ⟨es, ep, d⟩, d, r⟩
    have kin : K.In (hidT s1.heap H) := fun b o e => stays (KX b o e) fun eb => .inl fun z => by
      rw [eb, z] at e
      cases e
    have md : L2.Mod K mg (hidT s1.heap H) := ⟨kin, ns' hns, ⟨mb, ns' hb, hbb⟩, by
      obtain ⟨mc, h1, h2⟩ := nl
      exact ⟨mc, ns' h1, h2⟩⟩
    have e0 : Env0 P w K mg (hidT s1.heap H) callerA [] s1 H := ⟨rfl, md, fun b o e => of_hidT e, Nat.le_of_eq (hidT_size _ _), trivial, (fun b hb => by cases hb), ok, .of_eq hg⟩
    obtain ⟨f2, fd, G, hm2, _, _, bind⟩ := (F (hidT s1.heap H)).ex
    rw [hm] at hm2
    cases hm2
    refine codeAny_mono (G.go callerA [] s1 H ⟨[.ref a], []⟩ [.ref a] [.ref a] _ _ rfl room e0 (bind s1 [.ref a] rfl) (.cons rfl .nil) (wish H seq)) fun r s2 h => ?_
    rcases r with er | fl
    · exact False.elim h
    · cases fl with
      | next => exact False.elim h
      | brk => exact False.elim h
      | cont => exact False.elim h
      | ret u =>
        obtain ⟨v, H2, os, bare, un, ok2, rv, q⟩ := h
        have q : v = .bl true := q
        subst q
        obtain rfl : u = Value.bool true := rv
        refine ⟨rfl, OldK.of_keep fun b o e => ?_, os, bare⟩
        cases q : H b with
        | none => exact un.keep b o e q (by intro z; cases z) (by simp)
        | some z =>
          obtain ⟨_, _, ez⟩ := only b z q
          rw [ez] at q
          have q2 := un.frzs b _ _ q
          have a1 := (ok b _ q).1
          have a2 := (ok2 b _ q2).1
          rw [e] at a1
          cases a1
          exact a2
  cases lk : K.lookup a with
  | some o =>
    have e := KX a o lk
    rw [ha] at e
    cases e
    exact main (fun _ => none) (fun b u z => by cases z) (.inr ⟨_, vs.toArray, _, lk, rfl, rfl, rfl, by rw [List.size_toArray, hi.length]; exact hl, by simpa using vals⟩) fun b u z => by cases z
  | none =>
    refine main (fun b => if b = a then some (.frz { cls := .type "list", data := .seq vs.toArray } (.lst (ns.map V.int))) else none) (fun b u z => ?_) (.inl (.inr ⟨_, if_pos rfl⟩)) fun b u z => ?_
    · by_cases hb : b = a
      · have zz := Eq.trans (if_pos hb).symm z
        cases zz
        exact ⟨hb, lk, rfl⟩
      · have zz := Eq.trans (if_neg hb).symm z
        cases zz
    · by_cases hb : b = a
      · have zz := Eq.trans (if_pos hb).symm z
        cases zz
        rw [hb]
        exact ⟨ha, by rw [List.length_map]; exact hl, vs, _, vals, ha⟩
      · have zz := Eq.trans (if_neg hb).symm z
        cases zz
theorem ints_all {H : Hp} : ∀ ns : List Int, AllP (ns.map fun n => pV (.int n)) (ns.map V.int) H
  | [] => trivial
  | _ :: ns => ⟨rfl, ints_all ns⟩
theorem blt_ok {K : PySem.W.Frag} {h : Heap} {mg : Str → Option Value} (X : K.In h) (G : h.Ns mainGlobals mg) {x : Str} {id : String} (c : bltAt K x id = true) : mg x = some (.builtin id) := by
  unfold bltAt at c
  split at c
  · rename_i b e
    have eb := of_decide_eq_true c
    subst eb
    exact PySem.W.mg_of X G e
  · cases c
theorem txt_of {K : PySem.W.Frag} {w : World} {h : Heap} {mg : Str → Option Value} (X : K.In h) (G : h.Ns mainGlobals mg) (c : He.SaysT fa fn [] w K) (e : exK K = true) : Txt K mg := by
  have e2 := e
  unfold exK at e2
  obtain ⟨h1, e2⟩ := He.ba e2
  obtain ⟨h2, _⟩ := He.ba e2
  exact ⟨fun i x q => He.glo_ok X G (c.d.fact i q), fun i x q => He.free_ok X G (c.d.fact i q), c.d, e, blt_ok X G h1, blt_ok X G h2⟩
end K30
open PySem PySem.W PySem.Calls PyProof.Rows L2 K30
theorem PySem.Challenge.cw_ironships_k30_whole_courses_not_shown_holds : PySem.Challenge.rw_ironships_k30_whole_courses_not_shown.Holds := by
  w_on; o_law
  refine HandSHeadRun.head_imp (r := K30.R) (q := K30.qv) (H := K30.hkO) (ob := K30.obs0) (M := 6000) (loose := K30.nm) (d := HandSHeadRun.topDef K30.R.prog 123) (kwd := []) K30.obs0_eq K30.run
    (by kernel_rfl) (by kernel_rfl) (by kernel_rfl) (by rfl) (by first | assumption | decide +kernel) (by decide +kernel) ⟨rfl, rfl, rfl, rfl, rfl, by decide +kernel⟩ ?hw ?hc
  case hw => w_witness2
  case hc =>
    refine Att.attach_callB (l := PySem.Challenge.rw_ironships_k30_whole_courses_not_shown) (n := 63) rfl (by kernel_rfl) fun w s₀ s₁ mg mb fa o pm cd doc a vs ns G Y ho hd hcd hmg0 hobj hints hlen hbits hg => ?_
    obtain ⟨K, KX, c, ce⟩ := Y
    have T := K30.txt_of KX G.T.g c ce
    have hmg : mg ("law" : PySem.Str) = some (.ref fa) := by
      have e : (HandSHeadRun.topDef K30.R.prog 123).name = ("law" : PySem.Str) := by kernel_rfl
      rw [← e]
      exact hmg0
    exact K30.enter KX G.T.g G.T.b G.T.builtins G.T.nolimit hg hobj hints (Nat.le_trans hlen (by decide)) ⟨rfl, by decide, by decide⟩ (fun base => K30.ok_law T) hmg fun H seq => ⟨ns, hlen, ⟨⟨a, _, rfl, seq, K30.ints_all ns⟩, trivial⟩, fun v H' _ e => e⟩

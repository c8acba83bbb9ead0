import PyProof.Rows.All
import Wide.All
import OpenK.AllK
import Wide.FinOn
import Open.SpecLaws
import KE.OsGo
import KE.KStateDown
import HandS.Base
import HandS.Call
import HandS.List
import HandS.Ends
import HandS.More
import HandS.Words
import HandS.Defaults
import HandS.Spec
import HandS.Head0
import HandS.Head1
import HandS.Head2
import HandS.HeadHook1
import HandS.HeadHook2
import PySem.Challenge.RW_stembuck_s01_answers
import HandS.ForSpec
import HandS.Comp
import HandS.Iter
import HandS.Conv
import HandS.NoneIn
import HandS.Wide
import HandS.Evl
import HandS.CallLocal
import KE.SortData
import PyWrtibu
set_option Elab.async false
set_option linter.all false
set_option maxRecDepth 100000
section
set_option maxHeartbeats 0
namespace Sb
open PySem PySem.Spec PySem.Calls PyProof.Rows L2
/-! ### the text by places -/
def top (i : Nat) : Stmt := PySem.Challenge.pw_stembuck_s01_answers.main.body.getD i (.Pass ⟨0, 0, 0, 0⟩)
abbrev s_is_within : Stmt := top 10
abbrev d_is_within : He.DefD := ⟨("is_within", none), "is_within", "is_within", defArgs s_is_within, defBody s_is_within, defScope s_is_within, [], []⟩
abbrev s_is_height : Stmt := top 11
abbrev d_is_height : He.DefD := ⟨("is_height", none), "is_height", "is_height", defArgs s_is_height, defBody s_is_height, defScope s_is_height, [], []⟩
abbrev s_is_ten : Stmt := top 12
abbrev d_is_ten : He.DefD := ⟨("is_ten", none), "is_ten", "is_ten", defArgs s_is_ten, defBody s_is_ten, defScope s_is_ten, [], []⟩
abbrev s_is_length : Stmt := top 13
abbrev d_is_length : He.DefD := ⟨("is_length", none), "is_length", "is_length", defArgs s_is_length, defBody s_is_length, defScope s_is_length, [], []⟩
abbrev s_is_stretch : Stmt := top 14
abbrev d_is_stretch : He.DefD := ⟨("is_stretch", none), "is_stretch", "is_stretch", defArgs s_is_stretch, defBody s_is_stretch, defScope s_is_stretch, [], []⟩
abbrev s_is_grade : Stmt := top 15
abbrev d_is_grade : He.DefD := ⟨("is_grade", none), "is_grade", "is_grade", defArgs s_is_grade, defBody s_is_grade, defScope s_is_grade, [], []⟩
abbrev s_is_diameter : Stmt := top 16
abbrev d_is_diameter : He.DefD := ⟨("is_diameter", none), "is_diameter", "is_diameter", defArgs s_is_diameter, defBody s_is_diameter, defScope s_is_diameter, [], []⟩
abbrev s_is_product_number : Stmt := top 17
abbrev d_is_product_number : He.DefD := ⟨("is_product_number", none), "is_product_number", "is_product_number", defArgs s_is_product_number, defBody s_is_product_number, defScope s_is_product_number, [], []⟩
abbrev s_is_log : Stmt := top 18
abbrev d_is_log : He.DefD := ⟨("is_log", none), "is_log", "is_log", defArgs s_is_log, defBody s_is_log, defScope s_is_log, [], []⟩
abbrev s_are_paid_lengths : Stmt := top 19
abbrev d_are_paid_lengths : He.DefD := ⟨("are_paid_lengths", none), "are_paid_lengths", "are_paid_lengths", defArgs s_are_paid_lengths, defBody s_are_paid_lengths, defScope s_are_paid_lengths, [], []⟩
abbrev s_are_terms : Stmt := top 20
abbrev d_are_terms : He.DefD := ⟨("are_terms", none), "are_terms", "are_terms", defArgs s_are_terms, defBody s_are_terms, defScope s_are_terms, [], []⟩
abbrev s_is_rising : Stmt := top 21
abbrev d_is_rising : He.DefD := ⟨("is_rising", none), "is_rising", "is_rising", defArgs s_is_rising, defBody s_is_rising, defScope s_is_rising, [], []⟩
abbrev s_never_rises : Stmt := top 22
abbrev d_never_rises : He.DefD := ⟨("never_rises", none), "never_rises", "never_rises", defArgs s_never_rises, defBody s_never_rises, defScope s_never_rises, [], []⟩
abbrev s_are_points : Stmt := top 23
abbrev d_are_points : He.DefD := ⟨("are_points", none), "are_points", "are_points", defArgs s_are_points, defBody s_are_points, defScope s_are_points, [], []⟩
abbrev s_are_price_rows : Stmt := top 24
abbrev d_are_price_rows : He.DefD := ⟨("are_price_rows", none), "are_price_rows", "are_price_rows", defArgs s_are_price_rows, defBody s_are_price_rows, defScope s_are_price_rows, [], []⟩
abbrev s_are_pieces : Stmt := top 25
abbrev d_are_pieces : He.DefD := ⟨("are_pieces", none), "are_pieces", "are_pieces", defArgs s_are_pieces, defBody s_are_pieces, defScope s_are_pieces, [], []⟩
abbrev s_are_numbers : Stmt := top 26
abbrev d_are_numbers : He.DefD := ⟨("are_numbers", none), "are_numbers", "are_numbers", defArgs s_are_numbers, defBody s_are_numbers, defScope s_are_numbers, [], []⟩
abbrev s_pairs_of : Stmt := top 27
abbrev d_pairs_of : He.DefD := ⟨("pairs_of", none), "pairs_of", "pairs_of", defArgs s_pairs_of, defBody s_pairs_of, defScope s_pairs_of, [], []⟩
abbrev s_rounded_up : Stmt := top 29
abbrev d_rounded_up : He.DefD := ⟨("rounded_up", none), "rounded_up", "rounded_up", defArgs s_rounded_up, defBody s_rounded_up, defScope s_rounded_up, [], []⟩
abbrev s_upper_point : Stmt := top 30
abbrev d_upper_point : He.DefD := ⟨("upper_point", none), "upper_point", "upper_point", defArgs s_upper_point, defBody s_upper_point, defScope s_upper_point, [], []⟩
abbrev s_diameter_at : Stmt := top 31
abbrev d_diameter_at : He.DefD := ⟨("diameter_at", none), "diameter_at", "diameter_at", defArgs s_diameter_at, defBody s_diameter_at, defScope s_diameter_at, [], []⟩
abbrev s_parts_of : Stmt := top 32
abbrev d_parts_of : He.DefD := ⟨("parts_of", none), "parts_of", "parts_of", defArgs s_parts_of, defBody s_parts_of, defScope s_parts_of, [], []⟩
abbrev c_Stem : Stmt := top 33
abbrev s_Stem___init__ : Stmt := inClass c_Stem 0
abbrev d_Stem___init__ : He.DefD := ⟨("Stem", some "__init__"), "__init__", "Stem.__init__", defArgs s_Stem___init__, defBody s_Stem___init__, defScope s_Stem___init__, [], []⟩
abbrev s_Stem_foot : Stmt := inClass c_Stem 1
abbrev d_Stem_foot : He.DefD := ⟨("Stem", some "foot"), "foot", "Stem.foot", defArgs s_Stem_foot, defBody s_Stem_foot, defScope s_Stem_foot, [], []⟩
abbrev s_Stem_width : Stmt := inClass c_Stem 2
abbrev d_Stem_width : He.DefD := ⟨("Stem", some "width"), "width", "Stem.width", defArgs s_Stem_width, defBody s_Stem_width, defScope s_Stem_width, [], []⟩
abbrev s_Stem_worst_grade : Stmt := inClass c_Stem 3
abbrev d_Stem_worst_grade : He.DefD := ⟨("Stem", some "worst_grade"), "worst_grade", "Stem.worst_grade", defArgs s_Stem_worst_grade, defBody s_Stem_worst_grade, defScope s_Stem_worst_grade, [], []⟩
abbrev s_Stem_has_rot : Stmt := inClass c_Stem 4
abbrev d_Stem_has_rot : He.DefD := ⟨("Stem", some "has_rot"), "has_rot", "Stem.has_rot", defArgs s_Stem_has_rot, defBody s_Stem_has_rot, defScope s_Stem_has_rot, [], []⟩
abbrev s_Stem_cells_parts : Stmt := inClass c_Stem 5
abbrev d_Stem_cells_parts : He.DefD := ⟨("Stem", some "cells_parts"), "cells_parts", "Stem.cells_parts", defArgs s_Stem_cells_parts, defBody s_Stem_cells_parts, defScope s_Stem_cells_parts, [], []⟩
abbrev s_Stem_put_grade : Stmt := inClass c_Stem 6
abbrev d_Stem_put_grade : He.DefD := ⟨("Stem", some "put_grade"), "put_grade", "Stem.put_grade", defArgs s_Stem_put_grade, defBody s_Stem_put_grade, defScope s_Stem_put_grade, [], []⟩
abbrev s_Stem_put_rot : Stmt := inClass c_Stem 7
abbrev d_Stem_put_rot : He.DefD := ⟨("Stem", some "put_rot"), "put_rot", "Stem.put_rot", defArgs s_Stem_put_rot, defBody s_Stem_put_rot, defScope s_Stem_put_rot, [], []⟩
abbrev s_Stem_add_crook : Stmt := inClass c_Stem 8
abbrev d_Stem_add_crook : He.DefD := ⟨("Stem", some "add_crook"), "add_crook", "Stem.add_crook", defArgs s_Stem_add_crook, defBody s_Stem_add_crook, defScope s_Stem_add_crook, [], []⟩
abbrev s_Stem_cut_piece : Stmt := inClass c_Stem 9
abbrev d_Stem_cut_piece : He.DefD := ⟨("Stem", some "cut_piece"), "cut_piece", "Stem.cut_piece", defArgs s_Stem_cut_piece, defBody s_Stem_cut_piece, defScope s_Stem_cut_piece, [], []⟩
abbrev s_Stem_put_back : Stmt := inClass c_Stem 10
abbrev d_Stem_put_back : He.DefD := ⟨("Stem", some "put_back"), "put_back", "Stem.put_back", defArgs s_Stem_put_back, defBody s_Stem_put_back, defScope s_Stem_put_back, [], []⟩
abbrev c_Product : Stmt := top 36
abbrev s_Product___init__ : Stmt := inClass c_Product 0
abbrev d_Product___init__ : He.DefD := ⟨("Product", some "__init__"), "__init__", "Product.__init__", defArgs s_Product___init__, defBody s_Product___init__, defScope s_Product___init__, [], []⟩
abbrev s_Product_put_prices : Stmt := inClass c_Product 1
abbrev d_Product_put_prices : He.DefD := ⟨("Product", some "put_prices"), "put_prices", "Product.put_prices", defArgs s_Product_put_prices, defBody s_Product_put_prices, defScope s_Product_put_prices, [], []⟩
abbrev s_Product_pays : Stmt := inClass c_Product 2
abbrev d_Product_pays : He.DefD := ⟨("Product", some "pays"), "pays", "Product.pays", defArgs s_Product_pays, defBody s_Product_pays, defScope s_Product_pays, [], []⟩
abbrev s_Product_paid_lengths : Stmt := inClass c_Product 3
abbrev d_Product_paid_lengths : He.DefD := ⟨("Product", some "paid_lengths"), "paid_lengths", "Product.paid_lengths", defArgs s_Product_paid_lengths, defBody s_Product_paid_lengths, defScope s_Product_paid_lengths, [], []⟩
abbrev s_Product_price_at : Stmt := inClass c_Product 4
abbrev d_Product_price_at : He.DefD := ⟨("Product", some "price_at"), "price_at", "Product.price_at", defArgs s_Product_price_at, defBody s_Product_price_at, defScope s_Product_price_at, [], []⟩
abbrev s_is_too_crooked : Stmt := top 37
abbrev d_is_too_crooked : He.DefD := ⟨("is_too_crooked", none), "is_too_crooked", "is_too_crooked", defArgs s_is_too_crooked, defBody s_is_too_crooked, defScope s_is_too_crooked, [], []⟩
abbrev s_against : Stmt := top 38
abbrev d_against : He.DefD := ⟨("against", none), "against", "against", defArgs s_against, defBody s_against, defScope s_against, [], []⟩
abbrev s_worth_of : Stmt := top 39
abbrev d_worth_of : He.DefD := ⟨("worth_of", none), "worth_of", "worth_of", defArgs s_worth_of, defBody s_worth_of, defScope s_worth_of, [], []⟩
abbrev c_Desk : Stmt := top 42
abbrev s_Desk___init__ : Stmt := inClass c_Desk 0
abbrev d_Desk___init__ : He.DefD := ⟨("Desk", some "__init__"), "__init__", "Desk.__init__", defArgs s_Desk___init__, defBody s_Desk___init__, defScope s_Desk___init__, [], []⟩
abbrev s_Desk_put_stem : Stmt := inClass c_Desk 1
abbrev d_Desk_put_stem : He.DefD := ⟨("Desk", some "put_stem"), "put_stem", "Desk.put_stem", defArgs s_Desk_put_stem, defBody s_Desk_put_stem, defScope s_Desk_put_stem, [], []⟩
abbrev s_Desk_put_product : Stmt := inClass c_Desk 2
abbrev d_Desk_put_product : He.DefD := ⟨("Desk", some "put_product"), "put_product", "Desk.put_product", defArgs s_Desk_put_product, defBody s_Desk_put_product, defScope s_Desk_put_product, [], []⟩
abbrev s_Desk_drop_product : Stmt := inClass c_Desk 3
abbrev d_Desk_drop_product : He.DefD := ⟨("Desk", some "drop_product"), "drop_product", "Desk.drop_product", defArgs s_Desk_drop_product, defBody s_Desk_drop_product, defScope s_Desk_drop_product, [], []⟩
abbrev s_Desk_has_no_product : Stmt := inClass c_Desk 4
abbrev d_Desk_has_no_product : He.DefD := ⟨("Desk", some "has_no_product"), "has_no_product", "Desk.has_no_product", defArgs s_Desk_has_no_product, defBody s_Desk_has_no_product, defScope s_Desk_has_no_product, [], []⟩
abbrev s_Desk_lacks : Stmt := inClass c_Desk 5
abbrev d_Desk_lacks : He.DefD := ⟨("Desk", some "lacks"), "lacks", "Desk.lacks", defArgs s_Desk_lacks, defBody s_Desk_lacks, defScope s_Desk_lacks, [], []⟩
abbrev s_do_stem : Stmt := top 43
abbrev d_do_stem : He.DefD := ⟨("do_stem", none), "do_stem", "do_stem", defArgs s_do_stem, defBody s_do_stem, defScope s_do_stem, [], []⟩
abbrev s_do_zone : Stmt := top 44
abbrev d_do_zone : He.DefD := ⟨("do_zone", none), "do_zone", "do_zone", defArgs s_do_zone, defBody s_do_zone, defScope s_do_zone, [], []⟩
abbrev s_do_rot : Stmt := top 45
abbrev d_do_rot : He.DefD := ⟨("do_rot", none), "do_rot", "do_rot", defArgs s_do_rot, defBody s_do_rot, defScope s_do_rot, [], []⟩
abbrev s_do_crook : Stmt := top 46
abbrev d_do_crook : He.DefD := ⟨("do_crook", none), "do_crook", "do_crook", defArgs s_do_crook, defBody s_do_crook, defScope s_do_crook, [], []⟩
abbrev s_do_product : Stmt := top 47
abbrev d_do_product : He.DefD := ⟨("do_product", none), "do_product", "do_product", defArgs s_do_product, defBody s_do_product, defScope s_do_product, [], []⟩
abbrev s_do_price : Stmt := top 48
abbrev d_do_price : He.DefD := ⟨("do_price", none), "do_price", "do_price", defArgs s_do_price, defBody s_do_price, defScope s_do_price, [], []⟩
abbrev s_do_drop : Stmt := top 49
abbrev d_do_drop : He.DefD := ⟨("do_drop", none), "do_drop", "do_drop", defArgs s_do_drop, defBody s_do_drop, defScope s_do_drop, [], []⟩
abbrev s_do_cut : Stmt := top 50
abbrev d_do_cut : He.DefD := ⟨("do_cut", none), "do_cut", "do_cut", defArgs s_do_cut, defBody s_do_cut, defScope s_do_cut, [], []⟩
abbrev s_do_waste : Stmt := top 51
abbrev d_do_waste : He.DefD := ⟨("do_waste", none), "do_waste", "do_waste", defArgs s_do_waste, defBody s_do_waste, defScope s_do_waste, [], []⟩
abbrev s_do_back : Stmt := top 52
abbrev d_do_back : He.DefD := ⟨("do_back", none), "do_back", "do_back", defArgs s_do_back, defBody s_do_back, defScope s_do_back, [], []⟩
abbrev s_kinds_of : Stmt := top 55
abbrev d_kinds_of : He.DefD := ⟨("kinds_of", none), "kinds_of", "kinds_of", defArgs s_kinds_of, defBody s_kinds_of, defScope s_kinds_of, [], []⟩
abbrev s_steps_at : Stmt := top 56
abbrev d_steps_at : He.DefD := ⟨("steps_at", none), "steps_at", "steps_at", defArgs s_steps_at, defBody s_steps_at, defScope s_steps_at, [], []⟩
abbrev s_board_of : Stmt := top 57
abbrev d_board_of : He.DefD := ⟨("board_of", none), "board_of", "board_of", defArgs s_board_of, defBody s_board_of, defScope s_board_of, [], []⟩
abbrev s_has_logs_of : Stmt := top 58
abbrev d_has_logs_of : He.DefD := ⟨("has_logs_of", none), "has_logs_of", "has_logs_of", defArgs s_has_logs_of, defBody s_has_logs_of, defScope s_has_logs_of, [], []⟩
abbrev s_board_without_product : Stmt := top 59
abbrev d_board_without_product : He.DefD := ⟨("board_without_product", none), "board_without_product", "board_without_product", defArgs s_board_without_product, defBody s_board_without_product, defScope s_board_without_product, [], []⟩
abbrev s_takes_none_of : Stmt := top 60
abbrev d_takes_none_of : He.DefD := ⟨("takes_none_of", none), "takes_none_of", "takes_none_of", defArgs s_takes_none_of, defBody s_takes_none_of, defScope s_takes_none_of, [], []⟩
abbrev s_board_with_rot : Stmt := top 61
abbrev d_board_with_rot : He.DefD := ⟨("board_with_rot", none), "board_with_rot", "board_with_rot", defArgs s_board_with_rot, defBody s_board_with_rot, defScope s_board_with_rot, [], []⟩
abbrev s_way_worth : Stmt := top 62
abbrev d_way_worth : He.DefD := ⟨("way_worth", none), "way_worth", "way_worth", defArgs s_way_worth, defBody s_way_worth, defScope s_way_worth, [], []⟩
abbrev s_most_worths : Stmt := top 63
abbrev d_most_worths : He.DefD := ⟨("most_worths", none), "most_worths", "most_worths", defArgs s_most_worths, defBody s_most_worths, defScope s_most_worths, [], []⟩
abbrev s_best_step : Stmt := top 64
abbrev d_best_step : He.DefD := ⟨("best_step", none), "best_step", "best_step", defArgs s_best_step, defBody s_best_step, defScope s_best_step, [], []⟩
abbrev s_best_way : Stmt := top 65
abbrev d_best_way : He.DefD := ⟨("best_way", none), "best_way", "best_way", defArgs s_best_way, defBody s_best_way, defScope s_best_way, [], []⟩
abbrev s_pieces_of : Stmt := top 66
abbrev d_pieces_of : He.DefD := ⟨("pieces_of", none), "pieces_of", "pieces_of", defArgs s_pieces_of, defBody s_pieces_of, defScope s_pieces_of, [], []⟩
abbrev s_told_way : Stmt := top 67
abbrev d_told_way : He.DefD := ⟨("told_way", none), "told_way", "told_way", defArgs s_told_way, defBody s_told_way, defScope s_told_way, [], []⟩
abbrev s_most_with : Stmt := top 68
abbrev d_most_with : He.DefD := ⟨("most_with", none), "most_with", "most_with", defArgs s_most_with, defBody s_most_with, defScope s_most_with, [], []⟩
abbrev s_most_by_logs : Stmt := top 69
abbrev d_most_by_logs : He.DefD := ⟨("most_by_logs", none), "most_by_logs", "most_by_logs", defArgs s_most_by_logs, defBody s_most_by_logs, defScope s_most_by_logs, [], []⟩
abbrev s_tell_best : Stmt := top 73
abbrev d_tell_best : He.DefD := ⟨("tell_best", none), "tell_best", "tell_best", defArgs s_tell_best, defBody s_tell_best, defScope s_tell_best, [], []⟩
abbrev s_tell_second : Stmt := top 74
abbrev d_tell_second : He.DefD := ⟨("tell_second", none), "tell_second", "tell_second", defArgs s_tell_second, defBody s_tell_second, defScope s_tell_second, [], []⟩
abbrev s_tell_worths : Stmt := top 75
abbrev d_tell_worths : He.DefD := ⟨("tell_worths", none), "tell_worths", "tell_worths", defArgs s_tell_worths, defBody s_tell_worths, defScope s_tell_worths, [], []⟩
abbrev s_fault_at : Stmt := top 76
abbrev d_fault_at : He.DefD := ⟨("fault_at", none), "fault_at", "fault_at", defArgs s_fault_at, defBody s_fault_at, defScope s_fault_at, [], []⟩
abbrev s_tell_check : Stmt := top 77
abbrev d_tell_check : He.DefD := ⟨("tell_check", none), "tell_check", "tell_check", defArgs s_tell_check, defBody s_tell_check, defScope s_tell_check, [], []⟩
abbrev s_piece_fault : Stmt := top 78
abbrev d_piece_fault : He.DefD := ⟨("piece_fault", none), "piece_fault", "piece_fault", defArgs s_piece_fault, defBody s_piece_fault, defScope s_piece_fault, [], []⟩
abbrev s_tell_judge : Stmt := top 79
abbrev d_tell_judge : He.DefD := ⟨("tell_judge", none), "tell_judge", "tell_judge", defArgs s_tell_judge, defBody s_tell_judge, defScope s_tell_judge, [], []⟩
abbrev s_least_bonus : Stmt := top 80
abbrev d_least_bonus : He.DefD := ⟨("least_bonus", none), "least_bonus", "least_bonus", defArgs s_least_bonus, defBody s_least_bonus, defScope s_least_bonus, [], []⟩
abbrev s_tell_bonus : Stmt := top 81
abbrev d_tell_bonus : He.DefD := ⟨("tell_bonus", none), "tell_bonus", "tell_bonus", defArgs s_tell_bonus, defBody s_tell_bonus, defScope s_tell_bonus, [], []⟩
abbrev s_tell_lost : Stmt := top 82
abbrev d_tell_lost : He.DefD := ⟨("tell_lost", none), "tell_lost", "tell_lost", defArgs s_tell_lost, defBody s_tell_lost, defScope s_tell_lost, [], []⟩
abbrev s_tell_without : Stmt := top 83
abbrev d_tell_without : He.DefD := ⟨("tell_without", none), "tell_without", "tell_without", defArgs s_tell_without, defBody s_tell_without, defScope s_tell_without, [], []⟩
abbrev s_calls_of : Stmt := top 87
abbrev d_calls_of : He.DefD := ⟨("calls_of", none), "calls_of", "calls_of", defArgs s_calls_of, defBody s_calls_of, defScope s_calls_of, [], []⟩
abbrev s_in_lowest_terms : Stmt := top 90
abbrev d_in_lowest_terms : He.DefD := ⟨("in_lowest_terms", none), "in_lowest_terms", "in_lowest_terms", defArgs s_in_lowest_terms, defBody s_in_lowest_terms, defScope s_in_lowest_terms, [], []⟩
abbrev s_tell_diameter : Stmt := top 91
abbrev d_tell_diameter : He.DefD := ⟨("tell_diameter", none), "tell_diameter", "tell_diameter", defArgs s_tell_diameter, defBody s_tell_diameter, defScope s_tell_diameter, [], []⟩
abbrev s_tell_litres : Stmt := top 92
abbrev d_tell_litres : He.DefD := ⟨("tell_litres", none), "tell_litres", "tell_litres", defArgs s_tell_litres, defBody s_tell_litres, defScope s_tell_litres, [], []⟩
abbrev s_tell_grade : Stmt := top 93
abbrev d_tell_grade : He.DefD := ⟨("tell_grade", none), "tell_grade", "tell_grade", defArgs s_tell_grade, defBody s_tell_grade, defScope s_tell_grade, [], []⟩
abbrev s_tell_fits : Stmt := top 94
abbrev d_tell_fits : He.DefD := ⟨("tell_fits", none), "tell_fits", "tell_fits", defArgs s_tell_fits, defBody s_tell_fits, defScope s_tell_fits, [], []⟩
abbrev s_tell_worth : Stmt := top 95
abbrev d_tell_worth : He.DefD := ⟨("tell_worth", none), "tell_worth", "tell_worth", defArgs s_tell_worth, defBody s_tell_worth, defScope s_tell_worth, [], []⟩
abbrev s_tell_pieces : Stmt := top 96
abbrev d_tell_pieces : He.DefD := ⟨("tell_pieces", none), "tell_pieces", "tell_pieces", defArgs s_tell_pieces, defBody s_tell_pieces, defScope s_tell_pieces, [], []⟩
abbrev s_tell_whole : Stmt := top 97
abbrev d_tell_whole : He.DefD := ⟨("tell_whole", none), "tell_whole", "tell_whole", defArgs s_tell_whole, defBody s_tell_whole, defScope s_tell_whole, [], []⟩
abbrev s_answers : Stmt := top 100
abbrev d_answers : He.DefD := ⟨("answers", none), "answers", "answers", defArgs s_answers, defBody s_answers, defScope s_answers, [], []⟩
def fa : List He.Fa := [.glo "is_within",
  .glo "is_height",
  .glo "is_ten",
  .glo "is_length",
  .glo "is_stretch",
  .glo "is_grade",
  .glo "is_diameter",
  .glo "is_product_number",
  .glo "is_log",
  .glo "are_paid_lengths",
  .glo "are_terms",
  .glo "is_rising",
  .glo "never_rises",
  .glo "are_points",
  .glo "are_price_rows",
  .glo "are_pieces",
  .glo "are_numbers",
  .glo "pairs_of",
  .glo "rounded_up",
  .glo "upper_point",
  .glo "diameter_at",
  .glo "parts_of",
  .glo "Stem",
  .glo "Product",
  .glo "is_too_crooked",
  .glo "against",
  .glo "worth_of",
  .glo "Desk",
  .glo "do_stem",
  .glo "do_zone",
  .glo "do_rot",
  .glo "do_crook",
  .glo "do_product",
  .glo "do_price",
  .glo "do_drop",
  .glo "do_cut",
  .glo "do_waste",
  .glo "do_back",
  .glo "WASTE",
  .glo "kinds_of",
  .glo "steps_at",
  .glo "board_of",
  .glo "has_logs_of",
  .glo "board_without_product",
  .glo "takes_none_of",
  .glo "board_with_rot",
  .glo "way_worth",
  .glo "most_worths",
  .glo "best_step",
  .glo "best_way",
  .glo "pieces_of",
  .glo "told_way",
  .glo "most_with",
  .glo "most_by_logs",
  .glo "tell_best",
  .glo "tell_second",
  .glo "tell_worths",
  .glo "fault_at",
  .glo "tell_check",
  .glo "piece_fault",
  .glo "tell_judge",
  .glo "least_bonus",
  .glo "tell_bonus",
  .glo "tell_lost",
  .glo "tell_without",
  .glo "WHOLES",
  .glo "WITH_ROW",
  .glo "calls_of",
  .glo "in_lowest_terms",
  .glo "tell_diameter",
  .glo "tell_litres",
  .glo "tell_grade",
  .glo "tell_fits",
  .glo "tell_worth",
  .glo "tell_pieces",
  .glo "tell_whole",
  .glo "DEEDS",
  .glo "answers",
  .free "len",
  .free "range",
  .free "max",
  .free "min",
  .free "sum",
  .free "all",
  .free "sorted",
  .free "list",
  .free "enumerate",
  .int "OUT_OF_RANGE" (-1),
  .int "MISSING" (-3),
  .int "CANNOT_BE" (-4),
  .int "FULL" (-9),
  .int "LONGEST" (2000),
  .int "WIDEST" (2000),
  .int "WORST_GRADE" (9),
  .int "HIGHEST_PRICE" (10000000),
  .int "FARTHEST_NUMBER" (1000000000000000),
  .int "THOUSAND_LITRES" (1000000000000),
  .int "MOST_CROOKS" (20),
  .int "NO_SUCH_PRODUCT" (8),
  .int "ABOVE_THE_TOP" (2),
  .int "LITRE" (1000000000),
  .cls "Stem",
  .mkr "Stem",
  .noat "Stem" "points",
  .noat "Stem" "top",
  .noat "Stem" "widths",
  .noat "Stem" "grades",
  .noat "Stem" "rotten",
  .noat "Stem" "crooks",
  .noat "Stem" "pieces",
  .meth "Stem" "foot",
  .meth "Stem" "width",
  .meth "Stem" "worst_grade",
  .meth "Stem" "has_rot",
  .meth "Stem" "cells_parts",
  .meth "Stem" "put_grade",
  .meth "Stem" "put_rot",
  .meth "Stem" "add_crook",
  .meth "Stem" "cut_piece",
  .meth "Stem" "put_back",
  .cls "Product",
  .mkr "Product",
  .noat "Product" "grade",
  .noat "Product" "first",
  .noat "Product" "last",
  .noat "Product" "step",
  .noat "Product" "least_top",
  .noat "Product" "greatest_butt",
  .noat "Product" "over",
  .noat "Product" "prices",
  .meth "Product" "put_prices",
  .meth "Product" "pays",
  .meth "Product" "paid_lengths",
  .meth "Product" "price_at",
  .cls "Desk",
  .mkr "Desk",
  .noat "Desk" "stem",
  .noat "Desk" "products",
  .meth "Desk" "put_stem",
  .meth "Desk" "put_product",
  .meth "Desk" "drop_product",
  .meth "Desk" "has_no_product",
  .meth "Desk" "lacks"]
def fn : List He.DefD := [d_is_within,
  d_is_height,
  d_is_ten,
  d_is_length,
  d_is_stretch,
  d_is_grade,
  d_is_diameter,
  d_is_product_number,
  d_is_log,
  d_are_paid_lengths,
  d_are_terms,
  d_is_rising,
  d_never_rises,
  d_are_points,
  d_are_price_rows,
  d_are_pieces,
  d_are_numbers,
  d_pairs_of,
  d_rounded_up,
  d_upper_point,
  d_diameter_at,
  d_parts_of,
  d_Stem___init__,
  d_Stem_foot,
  d_Stem_width,
  d_Stem_worst_grade,
  d_Stem_has_rot,
  d_Stem_cells_parts,
  d_Stem_put_grade,
  d_Stem_put_rot,
  d_Stem_add_crook,
  d_Stem_cut_piece,
  d_Stem_put_back,
  d_Product___init__,
  d_Product_put_prices,
  d_Product_pays,
  d_Product_paid_lengths,
  d_Product_price_at,
  d_is_too_crooked,
  d_against,
  d_worth_of,
  d_Desk___init__,
  d_Desk_put_stem,
  d_Desk_put_product,
  d_Desk_drop_product,
  d_Desk_has_no_product,
  d_Desk_lacks,
  d_do_stem,
  d_do_zone,
  d_do_rot,
  d_do_crook,
  d_do_product,
  d_do_price,
  d_do_drop,
  d_do_cut,
  d_do_waste,
  d_do_back,
  d_kinds_of,
  d_steps_at,
  d_board_of,
  d_has_logs_of,
  d_board_without_product,
  d_takes_none_of,
  d_board_with_rot,
  d_way_worth,
  d_most_worths,
  d_best_step,
  d_best_way,
  d_pieces_of,
  d_told_way,
  d_most_with,
  d_most_by_logs,
  d_tell_best,
  d_tell_second,
  d_tell_worths,
  d_fault_at,
  d_tell_check,
  d_piece_fault,
  d_tell_judge,
  d_least_bonus,
  d_tell_bonus,
  d_tell_lost,
  d_tell_without,
  d_calls_of,
  d_in_lowest_terms,
  d_tell_diameter,
  d_tell_litres,
  d_tell_grade,
  d_tell_fits,
  d_tell_worth,
  d_tell_pieces,
  d_tell_whole,
  d_answers]
/-! ### dicts of the top with whole numbers for keys -/
def ents (K : PySem.W.Frag) : List DictEntry → List (Int × He.Dv) → Bool
  | [], [] => true
  | e :: r, q :: s => (match e.key with
    | .int j _ => decide (j = q.1) && decide (e.hash = hashInt q.1)
    | _ => false) && (He.relB (q.2.v K) e.val && ents K r s)
  | _, _ => false
def dicI (K : PySem.W.Frag) (x : Str) (kvs : List (Int × He.Dv)) : Bool := match K.lookup (He.ga K x) with
  | some ⟨.type c, none, .dict es _, sl⟩ => decide (c = "dict") && (sl.isEmpty && ents K es.toList kvs)
  | _ => false
def wholesL : List (Int × He.Dv) := [(1, .int 0), (2, .int 3), (3, .int 2), (4, .int 2), (5, .int 8), (6, .int 1), (7, .int 1), (8, .int 1), (9, .int 2), (10, .int 2), (11, .int 3), (12, .int 3), (13, .int 0), (14, .int 0), (15, .int 0), (16, .int 0), (17, .int 0), (18, .int 1), (19, .int 2), (20, .int 2), (21, .int 1), (22, .int 0), (23, .int 0), (24, .int 1), (25, .int 0)]
def deedsL : List (Int × He.Dv) := [(1, .glo "do_stem"), (2, .glo "do_zone"), (3, .glo "do_rot"), (4, .glo "do_crook"), (5, .glo "do_product"), (6, .glo "do_price"), (7, .glo "do_drop"), (8, .glo "tell_diameter"), (9, .glo "tell_litres"), (10, .glo "tell_grade"), (11, .glo "tell_fits"), (12, .glo "tell_worth"), (13, .glo "tell_best"), (14, .glo "tell_second"), (15, .glo "tell_worths"), (16, .glo "tell_check"), (17, .glo "tell_judge"), (18, .glo "tell_bonus"), (19, .glo "tell_lost"), (20, .glo "do_cut"), (21, .glo "do_waste"), (22, .glo "do_back"), (23, .glo "tell_pieces"), (24, .glo "tell_without"), (25, .glo "tell_whole")]
def cust (K : PySem.W.Frag) : Bool := He.tupB K "WASTE" [.int 1, .int (-1), .int 10, .int 0] && (He.tupB K "WITH_ROW" [.int 1, .int 6, .int 16, .int 17] && (dicI K "WHOLES" wholesL && dicI K "DEEDS" deedsL))
abbrev AlS : Type := Bool × He.AlD
def obsS (K : PySem.W.Frag) : AlS := (cust K, He.obsD fa fn K)
def valS : AlS := (true, He.valD fn)
/-- what the walk leans on -/
def Says (K : PySem.W.Frag) : Prop := obsS K = valS
def addrs0 : List Addr := [3, 21, 20, 28, 27, 35, 34, 42, 41, 49, 48, 56, 55, 63, 62, 70, 69, 77, 76, 84, 83, 91, 90, 98, 97, 105, 104, 110, 109, 115]
def addrs1 : List Addr := [114, 120, 119, 125, 124, 130, 129, 137, 136, 144, 143, 151, 150, 158, 157, 241, 240, 170, 169, 177, 176, 184, 183, 191, 190, 198, 197, 203, 202, 210]
def addrs2 : List Addr := [209, 217, 216, 224, 223, 231, 230, 238, 237, 239, 242, 243, 290, 289, 259, 258, 266, 265, 273, 272, 280, 279, 287, 286, 288, 291, 292, 301, 300, 308]
def addrs3 : List Addr := [307, 315, 314, 367, 366, 329, 328, 336, 335, 343, 342, 350, 349, 357, 356, 364, 363, 365, 368, 369, 378, 377, 385, 384, 392, 391, 399, 398, 406, 405]
def addrs4 : List Addr := [413, 412, 420, 419, 427, 426, 434, 433, 441, 440, 442, 449, 448, 456, 455, 461, 460, 468, 467, 473, 472, 480, 479, 485, 484, 492, 491, 497, 496, 504]
def addrs5 : List Addr := [503, 511, 510, 518, 517, 525, 524, 532, 531, 537, 536, 544, 543, 549, 548, 556, 555, 563, 562, 570, 569, 577, 576, 584, 583, 591, 590, 598, 597, 605]
def addrs6 : List Addr := [604, 612, 611, 613, 615, 622, 621, 629, 628, 636, 635, 643, 642, 650, 649, 657, 656, 664, 663, 671, 670, 678, 677, 679, 687, 686]
def addrs : List Addr := addrs0 ++ addrs1 ++ addrs2 ++ addrs3 ++ addrs4 ++ addrs5 ++ addrs6
def obsSG (g : Addr → Option Obj) : AlS := obsS (He.frG g addrs)
def hookS : PySem.W.Hook where
  α := AlS
  obs := fun s => obsSG s.heap.get?
  val := fun _ => valS
  says := fun _ h => ∃ K : PySem.W.Frag, K.In h ∧ Says K
  of := fun _ _ e => ⟨_, He.frG_in, e⟩
  keeps := fun _ _ _ ⟨K, hK, c⟩ k => ⟨K, PySem.W.Frag.In.keeps hK k, c⟩
abbrev PR : Program := PySem.Challenge.pw_stembuck_s01_answers
abbrev qv : Program := PySem.W.view PR [100]
def names0 : List Str := ["OUT_OF_RANGE", "MISSING", "CANNOT_BE", "FULL", "LONGEST", "WIDEST", "WORST_GRADE", "HIGHEST_PRICE", "FARTHEST_NUMBER", "is_within", "is_height", "is_ten", "is_length", "is_stretch", "is_grade", "is_diameter", "is_product_number", "is_log", "are_paid_lengths", "are_terms"]
def names1 : List Str := ["is_rising", "never_rises", "are_points", "are_price_rows", "are_pieces", "are_numbers", "pairs_of", "rounded_up", "upper_point", "diameter_at", "parts_of", "Stem", "THOUSAND_LITRES", "Product", "is_too_crooked", "against", "worth_of", "MOST_CROOKS", "Desk", "do_stem"]
def names2 : List Str := ["do_zone", "do_rot", "do_crook", "do_product", "do_price", "do_drop", "do_cut", "do_waste", "do_back", "WASTE", "kinds_of", "steps_at", "board_of", "has_logs_of", "board_without_product", "takes_none_of", "board_with_rot", "way_worth", "most_worths", "best_step"]
def names3 : List Str := ["best_way", "pieces_of", "told_way", "most_with", "most_by_logs", "NO_SUCH_PRODUCT", "ABOVE_THE_TOP", "tell_best", "tell_second", "tell_worths", "fault_at", "tell_check", "piece_fault", "tell_judge", "least_bonus", "tell_bonus", "tell_lost", "tell_without", "WHOLES", "WITH_ROW"]
def names4 : List Str := ["calls_of", "LITRE", "in_lowest_terms", "tell_diameter", "tell_litres", "tell_grade", "tell_fits", "tell_worth", "tell_pieces", "tell_whole", "DEEDS"]
def names : List Str := names0 ++ names1 ++ names2 ++ names3 ++ names4
abbrev hk : PySem.W.Hook := hookS
def ob (s : PySem.W.SharedT) : AlS := obsSG (HandSHeadRun.getT s)
theorem ob_eq (s : PySem.W.SharedT) : ob s = hk.obs s.abs := by
  have e : HandSHeadRun.getT s = s.abs.heap.get? := funext (HandSHeadRun.getT_eq s)
  show obsSG (HandSHeadRun.getT s) = obsSG s.abs.heap.get?
  rw [e]
end Sb
end
section
set_option maxHeartbeats 0
namespace Sb
open PySem PySem.Spec PySem.Calls PyProof.Rows L2
abbrev RunEq (w : World) : Prop := ∀ os : OsState, (HandSHeadRun.endF (HandSHeadRun.stepQ (HandSHeadRun.denQ HandSHeadRun.tabQ) PR w) 6000 PR w os).map (fun s => (HandSHeadRun.looksF PR (PySem.W.boot_heap w.params) s.abs, HandSHeadRun.seenQ qv names (importedModules PR.main.body) (fun s => PySem.W.xlAt qv [] s && PySem.W.recOk [] s) s.abs, ob s)) = some (true, PySem.W.openGood qv names, valS)
theorem run0 (w : World) : RunEq (w.withFollow "special-get-raises" false) := by
  intro os
  kernel_rfl
theorem run1 (w : World) : RunEq (w.withFollow "special-get-raises" true) := by
  intro os
  kernel_rfl
theorem run (w : World) : RunEq w := PySem.W.byRow2 "special-get-raises" run0 run1 w
end Sb
end
section
set_option maxHeartbeats 0
namespace Sb
open PySem PySem.Spec PySem.Calls PyProof.Rows L2
open PySem.W (WData Codec OpenSpec Well WellAll ReadsW ReadsAllW)
abbrev R : OpenSpec := PySem.Challenge.rw_stembuck_s01_answers
theorem well : R.wellSaid = true := by decide +kernel
theorem left : PySem.W.LeftO PR qv names (fun s => PySem.W.xlAt qv [] s && PySem.W.recOk [] s) hk.obs hk.val (6000 + 600) true :=
  HandSHeadRun.left_one (M := 6000) (by kernel_rfl) (Nat.ble_eq_true_of_le (by omega)) (fun s => by kernel_rfl) (Nat.ble_eq_true_of_le (by omega)) fun w os => by
    have z := run w os
    have eo : ob = fun s => hk.obs s.abs := funext ob_eq
    rw [eo] at z
    simp only [HandSHeadRun.endQ_eq, HandSHeadRun.seenQ_eq]
    exact z
/-- the kit's walk_spec, the written part told by what the run showed -/
theorem walk_specE {r : OpenSpec} {k : Nat} {q : Program} {loose : List Str} {XP : (Str → Option Value) → Heap → Prop} {YP : World → Heap → Prop} {d : DefRec} {CX : World → CXT} {ps : List Str}
    (hwell : r.wellSaid = true) (hlen : r.args.length = ps.length) (hr : Room k callerA)
    (F : ∀ (w : World) (mg : Str → Option Value) (fa : Addr) (h : Heap), YP w h → h.Ns mainGlobals mg → mg d.name = some (.ref fa) →
      ∃ (K : PySem.W.Frag) (fd : FuncData) (sp : Sp), K.In h ∧ (∀ (s : Shared) (us : List Value), us.length = ps.length → BindsTo s fd ⟨us, []⟩ (ps.zip us)) ∧
        (∀ base : Heap, K.In base → base.Ns mainGlobals mg → FnOk r.prog w K mg base (CX w) k fa fd ps sp) ∧
        ∀ (H : Hp) (xs : List V) (a : Codec.denoteAll r.args), OnlyF H → Codec.withinAll r.args a = true → Codec.app r.args r.asked a = true → DwAll K H xs (Codec.encAll r.args a) →
          sp xs H (fun v H' => Dw K H' v (r.ret.enc (Codec.app r.args r.f a))) fun _ _ _ => False)
    (hCX : ∀ (w : World) (H : Hp) (s : Shared) (e : Value) (s' : Shared), CX w [] H s (fun _ _ _ => False) e s' → False) :
    PySem.W.WalkOS q loose XP YP r d [] (fun f vs => PySem.call f vs) := by
  intro w s₀ s₁ mg mb G Y fa o pm cd doc dV kV ho hd hcd hD hmg hg args vals as hpre hlay hrd hwl hlo
  obtain ⟨a, e1, e2⟩ := PySem.W.os_pre_some hpre
  obtain ⟨e3, hwi⟩ := Codec.encAll_of_decAll r.args args a e1
  subst e3
  obtain ⟨K, fd, sp, KX, hb, hF, hsp⟩ := F w mg fa _ Y G.T.g hmg
  refine PySem.W.enter_call (codeAny_mono (spec_call (R := []) (cl := classAt s₀.heap) (d0 := r.ret.enc (Codec.app r.args r.f a)) KX G.T.g G.T.b G.T.builtins G.T.nolimit hg hwl (pl_encAll _ _) (layable_weight hlay) hr hF hb (by rw [encAll_len]; exact hlen)
    (fun H xs hO hS => hsp H xs a hO hwi e2 hS) fun H e s' => hCX w H s₁ e s') fun r' s' hq => ?_)
  obtain ⟨u, as', rfl, h1, h2, h3, h4⟩ := hq
  exact ⟨.inl ⟨u, _, as', rfl, fun _ => rfl, h1, (OpenSpec.post_iff hwell hwi _ _).mpr rfl, fun z => Bool.noConfusion (show false = true from z)⟩, h2, h3, h4⟩
end Sb
open PySem PySem.W PyProof.Rows
theorem Sb.holds_of (hc : WalkOS Sb.qv Sb.names (XL Sb.qv []) Sb.hk.says Sb.R (HandSHeadRun.topDef Sb.PR 100) [] (fun f vs => PySem.call f vs)) : PySem.Challenge.rw_stembuck_s01_answers.Holds := by
  refine holds_os (r := PySem.Challenge.rw_stembuck_s01_answers) (q := Sb.qv) (loose := Sb.names) (XP := XL Sb.qv []) (YP := Sb.hk.says) (kwd := []) (d := HandSHeadRun.topDef Sb.PR 100) Sb.left Sb.hk.of Sb.hk.keeps
    (fun s z => xl_of s (Bool.and_eq_true_iff.mp z).1) XL.keeps (by kernel_rfl) (by kernel_rfl) (by kernel_rfl) (fun s z => recFacts_of (Bool.and_eq_true_iff.mp z).2) os_shapes (by decide +kernel) (by decide +kernel) ⟨rfl, rfl, rfl, rfl, rfl, by decide +kernel⟩ ?hw hc
  case hw => exact ⟨[.list [.int 13]], by decide +kernel, by decide +kernel⟩
end
section
set_option maxHeartbeats 4000000
namespace Sb
open PySem PySem.Spec PySem.Calls PyProof.Rows L2 Evl
/-! ### what the run has shown, by names -/
structure Txt (K : PySem.W.Frag) (mg : Str → Option Value) : Prop where
  says : Says K
  at_ : ∃ h : Heap, K.In h ∧ h.Ns mainGlobals mg
section
variable {K : PySem.W.Frag} {mg : Str → Option Value}
theorem Txt.d (T : Txt K mg) : He.SaysD fa fn K := congrArg (fun z : AlS => z.2) T.says
theorem Txt.cust (T : Txt K mg) : cust K = true := congrArg (fun z : AlS => z.1) T.says
theorem Txt.fact (T : Txt K mg) (i : Nat) {f : He.Fa} (h : fa[i]? = some f) : f.ok K = true := T.d.fact i h
theorem Txt.glo (T : Txt K mg) (i : Nat) {x : Str} (h : fa[i]? = some (.glo x)) : mg x = some (.ref (He.ga K x)) := by
  obtain ⟨hp, X, G⟩ := T.at_
  exact He.glo_ok X G (T.fact i h)
theorem Txt.free (T : Txt K mg) (i : Nat) {x : Str} (h : fa[i]? = some (.free x)) : mg x = none := by
  obtain ⟨hp, X, G⟩ := T.at_
  exact He.free_ok X G (T.fact i h)
theorem Txt.int (T : Txt K mg) (i : Nat) {x : Str} {n : Int} (h : fa[i]? = some (.int x n)) : ∃ t, mg x = some (.int n t) := by
  obtain ⟨hp, X, G⟩ := T.at_
  exact He.int_ok X G (T.fact i h)
theorem Txt.cls (T : Txt K mg) (i : Nat) {x : Str} (h : fa[i]? = some (.cls x)) : Cls K (He.ga K x) := He.cls_ok (T.fact i h)
theorem Txt.noat (T : Txt K mg) (i : Nat) {x f : Str} (h : fa[i]? = some (.noat x f)) : NoAttr K (He.ga K x) f := He.noat_ok (T.fact i h)
theorem Txt.meth (T : Txt K mg) (i : Nat) {x m : Str} (h : fa[i]? = some (.meth x m)) : Meth K (He.ga K x) m (He.ma K (He.ga K x) m) := He.meth_ok (T.fact i h)
theorem Txt.mkr (T : Txt K mg) (i : Nat) {x : Str} (h : fa[i]? = some (.mkr x)) : Mk K (He.ga K x) (He.ma K (He.ga K x) "__init__") := He.mkr_ok (T.fact i h)
theorem Txt.waste (T : Txt K mg) (H : Hp) : SqT K H (He.ga K "WASTE") [.int 1, .int (-1), .int 10, .int 0] := He.tupB_ok (He.ba T.cust).1 H
theorem Txt.withRow (T : Txt K mg) (H : Hp) : SqT K H (He.ga K "WITH_ROW") [.int 1, .int 6, .int 16, .int 17] := He.tupB_ok (He.ba (He.ba T.cust).2).1 H
theorem Txt.wholes (T : Txt K mg) : dicI K "WHOLES" wholesL = true := (He.ba (He.ba (He.ba T.cust).2).2).1
theorem Txt.deeds (T : Txt K mg) : dicI K "DEEDS" deedsL = true := (He.ba (He.ba (He.ba T.cust).2).2).2
end
/-! ### a def keeps its promise -/
def Good (P : Program) (w : World) (K : PySem.W.Frag) (mg : Str → Option Value) (base : Heap) (x : Str × Option Str) (k : Nat) (ps : List Str) (sp : Sp) : Prop :=
  ∃ fd : FuncData, FnOk P w K mg base CX0 k (He.fAd K x) fd ps sp ∧ Binds K fd ps [] ∧ PySem.W.keepIn K (.ref (He.fAd K x)) = true
theorem good_mk {P : Program} {w : World} {K : PySem.W.Frag} {mg : Str → Option Value} {base : Heap} {d : He.DefD} (T : Txt K mg) (i : Nat) (hi : fn[i]? = some d) (h0 : d.dfl = []) (h1 : d.kwd = []) {N ps : List Str} {k : Nat} {sp : Sp} {t : TS}
    (S : FnScope N ps d.scope) (len : ∀ vs H Q E, sp vs H Q E → vs.length = ps.length)
    (hb : ∀ (kV doc pm : Value) (an : Option Addr) (cdv ct : Value) (us : List Value), us.length = ps.length → bindArgs (PySem.W.fnOf d.name d.qual d.params d.body d.scope .none kV doc pm an cdv ct) ⟨us, []⟩ = pure (ps.zip us))
    (hT : ∀ (cdv : Value) (A : Around) (outer : List Env) (s : Shared) (H : Hp) (E : XK), Room k (A.deeper (envOfC d.qual d.scope s.heap.objs.size (He.fAd K d.at_) cdv)) → PSs (cxOf CX0 P w K mg base N d.qual d.scope (He.fAd K d.at_) cdv A outer s H E).nox d.body t)
    (hR : ∀ vs H Q E, sp vs H Q E → t { nx := fun _ H' => Q .non H', rt := Q } (start N vs) H) : Good P w K mg base d.at_ (k + 1) ps sp := by
  obtain ⟨fd, F⟩ := T.d.def_ i hi
  have e0 : d.dvs K = [] := by
    unfold He.DefD.dvs
    rw [h0]
    rfl
  have e1 : d.kws K = [] := by
    unfold He.DefD.kws
    rw [h1]
    rfl
  rw [e0, e1] at F
  refine ⟨fd, F.ok S len fun cdv A outer s H vs Q E hr h => ⟨t, (hT cdv A outer s H E hr).nox, hR vs H Q E h⟩, F.bindsN hb, F.kp⟩
section
variable {X : Cx} {k : Nat} {ps : List Str} {sp : Sp} {x C m : Str} {p pos apos : Pos} {e o : Expr} {es : List Expr} {t : TA} {ta : TE}
theorem pe_callG (G : Good X.prog X.w X.K X.mg X.base (x, none) k ps sp) (hr : Room k X.A) (hg : Gl X x) (hm : X.mg x = some (.ref (He.ga X.K x)))
    (ha : PA X (e :: es) t) (hdb : (x == ("__debug__" : Str)) = false := by decide) (he : starEach (e :: es) X.env = (false, eval e X.env) :: starEach es X.env := by rfl) (hpl : (backTo pos (starEach es X.env)).any (·.1) = false := by rfl) :
    PE X (.Call (.Name x p) (e :: es) [] pos) (tCall sp [] E0 t) := by
  obtain ⟨fd, F, b, kp⟩ := G
  exact pe_call F hr hg hm kp b .nil pass0 ha hdb he hpl
theorem pe_methG {pl : Sem Bool} (he : PE X o ta) (c : Cls X.K (He.ga X.K C)) (hm : Meth X.K (He.ga X.K C) m (He.ma X.K (He.ga X.K C) m)) (G : Good X.prog X.w X.K X.mg X.base (C, some m) k ps sp) (hr : Room k X.A) (ha : PA X (e :: es) t)
    (hst : starEach (e :: es) X.env = (false, eval e X.env) :: starEach es X.env := by rfl) (hpl : (backTo pos (starEach es X.env)).any (·.1) = false := by rfl)
    (ht : eval (.Call (.Attribute o m apos) (e :: es) [] pos) X.env = (do
      let ov ← eval o X.env
      standAt apos.atName
      let (f, first) ← holding [ov] (getMethod ov m pl)
      callWith pos f first (backTo pos (starEach (e :: es) X.env)) (backToKw pos (keywordEach [] X.env))) := by rfl) :
    PE X (.Call (.Attribute o m apos) (e :: es) [] pos) (tMeth (He.ga X.K C) m sp [] E0 ta t) := by
  obtain ⟨fd, F, b, kp⟩ := G
  exact pe_meth he c hm F hr b .nil pass0 ha hst hpl ht
theorem pe_methG0 {pl : Sem Bool} (he : PE X o ta) (c : Cls X.K (He.ga X.K C)) (hm : Meth X.K (He.ga X.K C) m (He.ma X.K (He.ga X.K C) m)) (G : Good X.prog X.w X.K X.mg X.base (C, some m) k ps sp) (hr : Room k X.A)
    (ht : eval (.Call (.Attribute o m apos) [] [] pos) X.env = (do
      let ov ← eval o X.env
      standAt apos.atName
      let (f, first) ← holding [ov] (getMethod ov m pl)
      callWith pos f first (backTo pos (starEach [] X.env)) (backToKw pos (keywordEach [] X.env))) := by rfl) :
    PE X (.Call (.Attribute o m apos) [] [] pos) (tMeth (He.ga X.K C) m sp [] E0 ta tNil) := by
  obtain ⟨fd, F, b, kp⟩ := G
  exact pe_meth0 he c hm F hr b .nil pass0 ht
theorem pe_makeG (M : Mk X.K (He.ga X.K C) (He.ma X.K (He.ga X.K C) "__init__")) (G : Good X.prog X.w X.K X.mg X.base (C, some "__init__") k ps sp) (hr : Room (k + 1) X.A) (hg : Gl X C) (hm : X.mg C = some (.ref (He.ga X.K C)))
    (ha : PA X (e :: es) t) (hdb : (C == ("__debug__" : Str)) = false := by decide) (he : starEach (e :: es) X.env = (false, eval e X.env) :: starEach es X.env := by rfl) (hpl : (backTo pos (starEach es X.env)).any (·.1) = false := by rfl) :
    PE X (.Call (.Name C p) (e :: es) [] pos) (tMake (He.ga X.K C) sp [] E0 t) := by
  obtain ⟨fd, F, b, kp⟩ := G
  exact pe_make M F hr hg hm b .nil pass0 ha hdb he hpl
theorem pe_makeG0 (M : Mk X.K (He.ga X.K C) (He.ma X.K (He.ga X.K C) "__init__")) (G : Good X.prog X.w X.K X.mg X.base (C, some "__init__") k ps sp) (hr : Room (k + 1) X.A) (hg : Gl X C) (hm : X.mg C = some (.ref (He.ga X.K C)))
    (hdb : (C == ("__debug__" : Str)) = false := by decide) : PE X (.Call (.Name C p) [] [] pos) (tMake (He.ga X.K C) sp [] E0 tNil) := by
  obtain ⟨fd, F, b, kp⟩ := G
  exact pe_make0 M F hr hg hm b .nil pass0 hdb
/-- a module's whole number -/
theorem pe_gi {n : Int} (hg : Gl X x) (hm : ∃ t, X.mg x = some (.int n t)) (hd : (x == ("__debug__" : Str)) = false := by decide) : PE X (.Name x pos) (tC (.int n)) := by
  obtain ⟨t, h⟩ := hm
  exact pe_glob hg h ⟨t, rfl⟩ hd
/-- a module's object -/
theorem pe_gr {a : Addr} (hg : Gl X x) (hm : X.mg x = some (.ref a)) (hd : (x == ("__debug__" : Str)) = false := by decide) : PE X (.Name x pos) (tC (.ref a)) := pe_glob hg hm rfl hd
end
/-! ### xs[a::2] -/
def evens {α : Type} : List α → List α
  | [] => []
  | [a] => [a]
  | a :: _ :: r => a :: evens r
theorem evens_len {α : Type} : ∀ xs : List α, (evens xs).length = (xs.length + 1) / 2
  | [] => by simp [evens]
  | [a] => by simp [evens]
  | a :: b :: r => by
    show (evens r).length + 1 = (r.length + 1 + 1 + 1) / 2
    rw [evens_len r]
    omega
theorem evens_get {α : Type} : ∀ (xs : List α) (i : Nat), (evens xs)[i]? = xs[2 * i]?
  | [], i => by simp [evens]
  | [a], 0 => rfl
  | [a], i + 1 => by simp [evens]
  | a :: b :: r, 0 => rfl
  | a :: b :: r, i + 1 => by
    show (a :: evens r)[i + 1]? = (a :: b :: r)[2 * (i + 1)]?
    rw [List.getElem?_cons_succ, evens_get r i, show 2 * (i + 1) = 2 * i + 1 + 1 by omega, List.getElem?_cons_succ, List.getElem?_cons_succ]
theorem Vals.evens : ∀ {xs : List V} {us : List Value}, Vals xs us → Vals (evens xs) (evens us)
  | _, _, .nil => .nil
  | _, _, .cons r .nil => .cons r .nil
  | _, _, .cons r (.cons _ t) => .cons r (Vals.evens t)
theorem evens_map {α β : Type} (f : α → β) : ∀ xs : List α, evens (xs.map f) = (evens xs).map f
  | [] => rfl
  | [a] => rfl
  | a :: b :: r => by
    show f a :: evens (r.map f) = f a :: (evens r).map f
    rw [evens_map f r]
theorem filterMap_range_get {α : Type} (l : List α) : (List.range l.length).filterMap (l[·]?) = l := by
  have h : ∀ (l m : List α), (List.range l.length).filterMap (fun i => (m ++ l)[m.length + i]?) = l := by
    intro l
    induction l with
    | nil => intro m; rfl
    | cons a r ih =>
      intro m
      rw [List.length_cons, List.range_succ_eq_map, List.filterMap_cons, List.filterMap_map]
      have e0 : (m ++ a :: r)[m.length + 0]? = some a := by simp
      rw [e0]
      show a :: _ = a :: r
      congr 1
      have z := ih (m ++ [a])
      have e : (fun i => (m ++ a :: r)[m.length + i]?) ∘ Nat.succ = fun i => ((m ++ [a]) ++ r)[(m ++ [a]).length + i]? := by
        funext i
        show (m ++ a :: r)[m.length + (i + 1)]? = _
        rw [List.append_assoc, List.length_append]
        show _ = (m ++ a :: r)[m.length + 1 + i]?
        congr 1
        omega
      rw [e]
      exact z
  have z := h l []
  simpa using z
theorem fm_congr {α β : Type} {f g : α → Option β} : ∀ {l : List α}, (∀ a ∈ l, f a = g a) → l.filterMap f = l.filterMap g
  | [], _ => rfl
  | a :: r, h => by
    rw [List.filterMap_cons, List.filterMap_cons, h a (List.mem_cons_self ..), fm_congr fun b hb => h b (List.mem_cons_of_mem _ hb)]
theorem slicePick_two (its : List Value) (a : Nat) (ha : a ≤ 1) : slicePick its.toArray (some (a : Int)) none (some 2) = (evens (its.drop a)).toArray := by
  unfold slicePick
  have hb : sliceBounds (some (a : Int)) none (some 2) its.toArray.size = (((min a its.length : Nat) : Int), (its.length : Int), 2) := by
    unfold sliceBounds
    simp only [Option.getD_some, List.size_toArray]
    rw [if_pos (by decide : (2 : Int) > 0), if_pos (by decide : (2 : Int) > 0), if_neg (by omega : ¬ ((a : Int) < 0))]
    congr 1
    omega
  rw [hb]
  show ((sliceRange ((min a its.length : Nat) : Int) (its.length : Int) 2).filterMap (its.toArray[·]?)).toArray = _
  congr 1
  have hr : sliceRange ((min a its.length : Nat) : Int) (its.length : Int) 2 = (List.range (evens (its.drop a)).length).map fun k => min a its.length + 2 * k := by
    unfold sliceRange
    rw [evens_len, List.length_drop]
    rw [if_pos (by decide : (2 : Int) > 0)]
    have hc : (if ((min a its.length : Nat) : Int) < (its.length : Int) then ((its.length : Int) - ((min a its.length : Nat) : Int) + 2 - 1) / 2 else 0).toNat = (its.length - a + 1) / 2 := by
      split
      · omega
      · omega
    show (List.range (if ((min a its.length : Nat) : Int) < (its.length : Int) then ((its.length : Int) - ((min a its.length : Nat) : Int) + 2 - 1) / 2 else 0).toNat).map _ = _
    rw [hc]
    apply List.map_congr_left
    intro k _
    omega
  rw [hr, List.filterMap_map]
  have e : ∀ k ∈ List.range (evens (its.drop a)).length, ((fun x => its.toArray[x]?) ∘ fun k => min a its.length + 2 * k) k = (evens (its.drop a))[k]? := by
    intro k hk
    rw [evens_get, List.getElem?_drop]
    show its.toArray[min a its.length + 2 * k]? = _
    rw [List.getElem?_toArray]
    have hlt := List.mem_range.mp hk
    rw [evens_len, List.length_drop] at hlt
    have : min a its.length = a := by omega
    rw [this]
  rw [fm_congr e]
  exact filterMap_range_get _
def tSl2 (K : PySem.W.Frag) (a : Nat) (te : TE) : TE := fun σ H Q => te σ H fun x H1 => ∃ b xs, x = .ref b ∧ SqL K H1 b xs ∧ ∀ p, H1 p = none → Q (.ref p) (upd H1 p (.lst (evens (xs.drop a))))
theorem pe_slice2 {X : Cx} {e : Expr} {te : TE} (a : Nat) (ha : a ≤ 1) {k k1 : Nat} {p1 p2 p3 pos : Pos} (he : PE X e te) : PE X (.Subscript e (.Slice (some (.Constant (.int (a : Int)) k1 p1)) none (some (.Constant (.int 2) k p2)) p3) pos) (tSl2 X.K a te) := by
  refine ⟨fun pins s σ H Q I h => ?_⟩
  refine Subscript_ (thn (he.run pins s σ H _ I h) fun v s1 ⟨x, H1, I1, r1, q1⟩ => ?_)
  obtain ⟨b, xs, ex, hx, q⟩ := q1
  subst ex
  cases r1
  have hlo : PO X (some (.Constant (.int (a : Int)) k1 p1)) (tPart (tC (.int (a : Int)))) := po_some pe_int
  have hst : PO X (some (.Constant (.int 2) k p2)) (tPart (tC (.int 2))) := po_some pe_int
  refine wpAny_Slice (thn (hlo.run pins s1 σ H1 (fun o H2 => o = some (a : Int) ∧ H2 = H1) I1 ⟨(a : Int), rfl, rfl, rfl⟩) fun vl s2 ⟨l, H2, I2, pl, el, e2⟩ => ?_)
  subst el e2
  refine thn (po_none.run pins s2 σ H2 (fun o H3 => o = none ∧ H3 = H2) I2 ⟨rfl, rfl⟩) fun vu s3 ⟨u, H3, I3, pu, eu, e3⟩ => ?_
  subst eu e3
  refine thn (hst.run pins s3 σ H3 (fun o H4 => o = some 2 ∧ H4 = H3) I3 ⟨2, rfl, rfl, rfl⟩) fun vs s4 ⟨o, H4, I4, ps, eo, e4⟩ => ?_
  subst eo e4
  have I5 : Inv X pins σ H4 { s4 with heap := s4.heap.push { cls := .type "slice", data := .fields #[vl, vu, vs] } } := I4.kept (t' := s4.toks) fun b ob q => Heap.get?_push_of_some _ q
  obtain ⟨its, r, ht, hz⟩ := I5.list hx
  have hlen := r.length
  show wpAny (model X.prog X.w) X.A (subscriptTail e (.Slice (some (.Constant (.int (a : Int)) k1 p1)) none (some (.Constant (.int 2) k p2)) p3) (.ref b) (.ref s4.heap.objs.size)) (EP X pins σ Q) X.xe { s4 with heap := s4.heap.push { cls := .type "slice", data := .fields #[vl, vu, vs] } }
  refine tail_any (ops := [.ref b, .ref s4.heap.objs.size]) ht.isList.typeIs (PySem.slot_list_getitem.lookup) ?_ (by with_unfolding_all rfl)
  refine wpAny_getItem_list_slice ht.isList (Heap.IsSliceOf.new _ vl vu vs) pl pu ps (by decide) ?_ (by rw [List.size_toArray]; omega)
  rw [slicePick_two its a ha]
  refine ⟨.ref _, _, I5.laid (t' := s4.toks) (o := .lst (evens (xs.drop a))) (fun b ob q => Heap.get?_push_of_some _ q) (Nat.le_refl _) ?_, rfl, q _ (I5.hok.fresh (Nat.le_refl _))⟩
  refine ⟨?_, _, 0, Vals.evens (r.drop a), Heap.get?_push_size _ rfl⟩
  rw [evens_len, List.length_drop]
  omega
/-! ### list(range(a, b, c)) -/
def tLstRg3 (ta : TA) : TE := fun σ H Q => ta σ H fun vs H1 => ∃ (i j c : Int) (n : Nat), vs = [.int i, .int j, .int c] ∧ RgC i j c n ∧ n ≤ 16777216 ∧ ∀ q, H1 q = none → Q (.ref q) (upd H1 q (.lst ((List.range n).map fun k => V.int (i + (k : Nat) * c))))
theorem pe_listRg3 {X : Cx} {a b c : Expr} {ta : TA} {p p' pos pos' : Pos} (hc : X.calm = true) (hgl : Gl X "list") (hml : X.mg "list" = none) (hg : Gl X "range") (hm : X.mg "range" = none) (ha : PA X [a, b, c] ta)
    (hs : starEach [a, b, c] X.env = (false, eval a X.env) :: starEach [b, c] X.env := by rfl) (hpl : (backTo pos' (starEach [b, c] X.env)).any (·.1) = false := by rfl)
    (na : starEach [.Call (.Name "range" p') [a, b, c] [] pos'] X.env = (false, eval (.Call (.Name "range" p') [a, b, c] [] pos') X.env) :: starEach [] X.env := by rfl) :
    PE X (.Call (.Name "list" p) [.Call (.Name "range" p') [a, b, c] [] pos'] [] pos) (tLstRg3 ta) := by
  refine ⟨fun pins s σ H Q I h => ?_⟩
  refine Call_ (ld_blt I hgl hml boot_list (PyProof.Rows.callWith_type1 (args_cons ?_ na) na))
  refine Call_ (ld_blt I hg hm boot_range (PyProof.Rows.callWith_type1 (thn (ha.run pos' pins s σ H _ I h) fun us s1 ⟨vs, H1, I1, r1, q1⟩ => ?_) hs hpl))
  obtain ⟨i, j, k, n, e, ⟨c0, c1, c2, c3⟩, hn, q⟩ := q1
  subst e
  cases r1 with
  | cons r rr =>
    cases rr with
    | cons r' rr =>
      cases rr with
      | cons r'' rr =>
        cases rr
        obtain ⟨t, rfl⟩ := r
        obtain ⟨t', rfl⟩ := r'
        obtain ⟨t'', rfl⟩ := r''
        refine call_range_3 c0 (args_nil ?_) (.inl (PyProof.noPylong_small c1))
        have I2 : Inv X pins σ H1 { s1 with heap := s1.heap.push { cls := .type "range", data := .fields #[.int i t, .int j t', .int k t''] } } := I1.kept (t' := s1.toks) fun b o e => Heap.get?_push_of_some _ e
        refine call_list_range (n := n) (I2.ok.hd hc) (IsRange.new ..) c2 c3 hn fun h' tk acc c' hk e' hi => ?_
        have hV : Vals ((List.range n).map fun m => V.int (i + (m : Nat) * k)) acc.toList := by
          have el : acc.toList.length = n := by rw [Array.length_toList]; exact hi.1
          rw [← el]
          refine vals_of_get acc.toList _ fun m u hj => ?_
          obtain ⟨t, rfl⟩ := hi.2 m u (by rw [← hj, Array.getElem?_toList])
          exact ⟨t, rfl⟩
        refine ⟨.ref _, upd H1 _ (.lst ((List.range n).map fun m => V.int (i + (m : Nat) * k))), I2.laid hk (Nat.le_refl _) (show ObjOk X.prog X.w _ _ _ (.lst _) from ⟨?_, acc.toList, c', hV, ?_⟩), rfl, q _ (I2.hok.fresh (Nat.le_refl _))⟩
        · rw [List.length_map, List.length_range, sizeLine_eq]; omega
        · rw [Array.toArray_toList]; exact e'
/-! ### d[k], d a dict of the top with whole numbers for keys -/
theorem ents_find {K : PySem.W.Frag} {k : Int} {v : He.Dv} : ∀ {l : List DictEntry} {kvs : List (Int × He.Dv)}, ents K l kvs = true → kvs.lookup k = some v →
    ∃ e, l.find? (fun e => Value.isInt k e.key) = some e ∧ RelV (v.v K) e.val
  | [], [], _, h => by cases h
  | [], _ :: _, h, _ => by cases h
  | _ :: _, [], h, _ => by cases h
  | e :: r, q :: s, h, hl => by
    obtain ⟨h1, h2⟩ := He.ba (show ((match e.key with
      | .int j _ => decide (j = q.1) && decide (e.hash = hashInt q.1)
      | _ => false) && (He.relB (q.2.v K) e.val && ents K r s)) = true from h)
    obtain ⟨h3, h4⟩ := He.ba h2
    obtain ⟨eh, ek, ev⟩ := e
    obtain ⟨qk, qv⟩ := q
    cases ek with
    | int j t =>
      obtain ⟨h5, _⟩ := He.ba (show (decide (j = qk) && decide (eh = hashInt qk)) = true from h1)
      have ej : j = qk := of_decide_eq_true h5
      subst ej
      by_cases c : k = j
      · subst c
        have e1 : (k == k) = true := beq_self_eq_true k
        have e2 : some qv = some v := by
          simp only [List.lookup, e1] at hl
          exact hl
        cases e2
        refine ⟨_, ?_, He.relB_ok h3⟩
        rw [List.find?_cons_of_pos]
        simp [Value.isInt]
      · have e1 : (k == j) = false := beq_eq_false_iff_ne.mpr c
        have hl2 : s.lookup k = some v := by
          simp only [List.lookup, e1] at hl
          exact hl
        obtain ⟨e, f1, f2⟩ := ents_find h4 hl2
        refine ⟨e, ?_, f2⟩
        rw [List.find?_cons_of_neg]
        · exact f1
        · simp [Value.isInt]
          exact fun z => c z.symm
    | _ => cases h1
theorem ents_keys {K : PySem.W.Frag} : ∀ {l : List DictEntry} {kvs : List (Int × He.Dv)}, ents K l kvs = true → ∀ e ∈ l, ∃ k t, e.key = .int k t ∧ e.hash = hashInt k
  | [], _, _, e, he => by cases he
  | _ :: _, [], h, _, _ => by cases h
  | e :: r, q :: s, h, e', he => by
    obtain ⟨h1, h2⟩ := He.ba (show ((match e.key with
      | .int j _ => decide (j = q.1) && decide (e.hash = hashInt q.1)
      | _ => false) && (He.relB (q.2.v K) e.val && ents K r s)) = true from h)
    obtain ⟨h3, h4⟩ := He.ba h2
    rcases List.mem_cons.mp he with rfl | he
    · obtain ⟨eh, ek, ev⟩ := e'
      cases ek with
      | int j t =>
        obtain ⟨h5, h6⟩ := He.ba (show (decide (j = q.1) && decide (eh = hashInt q.1)) = true from h1)
        have ej : j = q.1 := of_decide_eq_true h5
        have e6 : eh = hashInt q.1 := of_decide_eq_true h6
        exact ⟨j, t, rfl, by rw [e6, ej]⟩
      | _ => cases h1
    · exact ents_keys h4 e' he
def rIxI (K : PySem.W.Frag) (nm : Str) (kvs : List (Int × He.Dv)) : R2 := fun x y H Q => ∃ k v, x = .ref (He.ga K nm) ∧ y = .int k ∧ kvs.lookup k = some v ∧ Q (v.v K) H
theorem ix_dicI {X : Cx} {nm : Str} {kvs : List (Int × He.Dv)} (hd : dicI X.K nm kvs = true) : IxR X (rIxI X.K nm kvs) := by
  intro value slice pins s σ H x y v u Q I rx ry h hs
  obtain ⟨k, d, rfl, rfl, hk, q⟩ := h
  obtain rfl : v = Value.ref (He.ga X.K nm) := rx
  obtain ⟨t, rfl⟩ := ry
  unfold dicI at hd
  cases hl : X.K.lookup (He.ga X.K nm) with
  | none =>
    rw [hl] at hd
    cases hd
  | some o =>
    obtain ⟨oc, od, dt, osl⟩ := o
    rw [hl] at hd
    cases oc with
    | type c =>
      cases od with
      | none =>
        cases dt with
        | dict es n =>
          obtain ⟨h1, h2⟩ := He.ba (show (decide (c = "dict") && (osl.isEmpty && ents X.K es.toList kvs)) = true from hd)
          obtain ⟨h3, h4⟩ := He.ba h2
          have e1 : c = "dict" := of_decide_eq_true h1
          have e2 : osl = #[] := Array.isEmpty_iff.mp h3
          subst e1 e2
          have hm : s.heap.MapOf (PySem.intKind X.prog X.w) (He.ga X.K nm) (fun k => findBy Value.isInt es k) :=
            ⟨_, es, n, I.kIn _ _ hl, ⟨rfl, rfl, rfl⟩, rfl, fun e he => by
              obtain ⟨k, t, e1, e2⟩ := ents_keys h4 e (Array.mem_toList_iff.mpr he)
              exact ⟨k, by rw [e1]; exact PySem.intKind_is X.prog X.w k t, e2⟩, fun _ => rfl⟩
          obtain ⟨e, f1, f2⟩ := ents_find h4 hk
          have hf : findBy Value.isInt es k = some e.val := by
            obtain ⟨l⟩ := es
            unfold findBy
            rw [List.find?_toArray]
            rw [show l.find? (fun e => Value.isInt k e.key) = some e from f1]
            rfl
          exact tail_any hm.typeIs slot_dict_getitem.lookup (wpAny_getItem_of (PySem.intKind_is X.prog X.w k t) hm hf ⟨d.v X.K, H, I.tok _, f2, q⟩) hs
        | _ => cases hd
      | some a => cases dt <;> cases hd
    | _ => cases od <;> cases dt <;> cases hd
/-! ### sorted of tuples of whole numbers, any length -/
theorem paired_each {α β : Type} {F : α → β → Prop} : ∀ {l : List α} {m : List β}, Paired F l m → PySem.W.EachIs F l m
  | _, _, .nil => .nil
  | _, _, .cons h t => .cons h (paired_each t)
theorem each_paired {α β : Type} {F : α → β → Prop} : ∀ {l : List α} {m : List β}, PySem.W.EachIs F l m → Paired F l m
  | _, _, .nil => .nil
  | _, _, .cons h t => .cons h (each_paired t)
/-- the refs at ts are tuples of whole numbers -/
abbrev Tups (K : PySem.W.Frag) (H : Hp) (ts : List Addr) (ks : List (List Int)) : Prop := Paired (fun t (k : List Int) => SqT K H t (k.map V.int)) ts ks
def rSortT (K : PySem.W.Frag) : List V → Hp → VK → Prop := fun vs H Q => ∃ (a : Addr) (ts : List Addr) (ks : List (List Int)), vs = [.ref a] ∧ SqL K H a (ts.map V.ref) ∧ Tups K H ts ks ∧ (∀ k ∈ ks, k ≠ []) ∧
  ∀ p ts', H p = none → Tups K H ts' (ks.mergeSort fun p q => decide (p ≤ q)) → Q (.ref p) (upd H p (.lst (ts'.map V.ref)))
theorem tupEnc_le (p q : List Int) : PySem.W.dataLe false (fun k : List Int => PyData.tuple (k.map .int)) p q = decide (p ≤ q) := by
  have h := congrFun (congrFun (PySem.W.dataLe_rows (fun k : List Int => k)) p) q
  rw [← h]
  rfl
theorem ints_reads {h : Heap} : ∀ {k : List Int} {us : List Value}, Vals (k.map V.int) us → ∃ as, ReadsAll h us (k.map .int) as
  | [], us, r => by
    cases r
    exact ⟨_, .nil⟩
  | i :: k, us, r => by
    cases r with
    | cons r1 r2 =>
      obtain ⟨t, rfl⟩ := r1
      obtain ⟨as, z⟩ := ints_reads r2
      exact ⟨_, .cons (.int i t) z⟩
theorem vals_refs_of : ∀ {ts : List Addr} {us : List Value}, Vals (ts.map V.ref) us → us = ts.map Value.ref
  | [], us, r => by
    cases r
    rfl
  | t :: ts, us, r => by
    cases r with
    | cons r1 r2 =>
      cases r1
      rw [vals_refs_of r2]
      rfl
theorem depth_ints : ∀ k : List Int, (PyData.tuple (k.map .int)).depth = 1 := fun k => by
  show PyData.depthAll (k.map .int) + 1 = 1
  rw [PySem.W.depth_ints]
theorem each_map_l {α β γ : Type} {F : γ → β → Prop} (f : α → γ) : ∀ {l : List α} {m : List β}, Paired (fun a b => F (f a) b) l m → PySem.W.EachIs F (l.map f) m
  | _, _, .nil => .nil
  | _, _, .cons h t => .cons h (each_map_l f t)
theorem each_refs {F : Addr → List Int → Prop} : ∀ {us : List Value} {m : List (List Int)}, PySem.W.EachIs (fun u k => ∃ t, u = Value.ref t ∧ F t k) us m → ∃ ts : List Addr, us = ts.map Value.ref ∧ Paired F ts m
  | _, _, .nil => ⟨[], rfl, .nil⟩
  | _, _, .cons h r => by
    obtain ⟨t, rfl, h1⟩ := h
    obtain ⟨ts, rfl, h2⟩ := each_refs r
    exact ⟨t :: ts, rfl, .cons h1 h2⟩
theorem cr_sortT {X : Cx} (hu : X.A.units + 64 < cLine) : CallR X (.builtin "sorted") (rSortT X.K) := by
  intro pins s σ H vs us Q I r h
  obtain ⟨a, ts, ks, rfl, hs, hx, hne, q⟩ := h
  obtain ⟨its, rv, hl, hz⟩ := I.list hs
  obtain ⟨u, rfl, ru⟩ := vals1 r
  obtain rfl : u = Value.ref a := ru
  obtain rfl := vals_refs_of rv
  have hlen : ts.length = ks.length := hx.length
  have hE : PySem.W.EachIs (fun (u : Value) (k : List Int) => ∃ t, u = Value.ref t ∧ SqT X.K H t (k.map V.int)) (ts.map Value.ref) ks := each_map_l Value.ref (Paired.mapP hx fun t k z => ⟨t, rfl, z⟩)
  refine PySem.W.sorted_data (enc := fun k : List Int => PyData.tuple (k.map .int)) hl.isList hE (hE.mono fun u k ⟨t, e, z⟩ => ?_) (PySem.W.AllAlike.of fun b b' => PySem.W.alike_ints b b') (.inl fun d hd => ?_) (by rw [← hlen]; simpa using hz) (fun b _ => ?_) fun out hlo ho => ?_
  · obtain ⟨k, hk, rfl⟩ := List.mem_map.mp hd
    cases k with
    | nil => exact absurd rfl (hne [] hk)
    | cons x r => exact ⟨.int x, r.map .int, rfl⟩
  · rw [depth_ints]
    omega
  · obtain ⟨ts', rfl, h2⟩ := each_refs ho
    have e : (PySem.W.dataLe false fun k : List Int => PyData.tuple (k.map .int)) = fun p q => decide (p ≤ q) := funext fun p => funext fun q => tupEnc_le p q
    rw [e] at h2
    have hz2 : ts'.length ≤ sizeLine := by
      have : ts'.length = ks.length := by simpa using hlo
      rw [this, ← hlen]
      simpa using hz
    obtain ⟨n, hn⟩ := sortedAll_at s.heap (ts.map Value.ref) (ts'.map Value.ref).toArray
    refine ⟨.ref (s.heap.objs.size + 1), upd H (s.heap.objs.size + 1) (.lst (ts'.map V.ref)), I.laid (t' := s.toks) (fun b o hb => sortedAll_old hb) (Nat.le_succ _) ⟨by simpa using hz2, ts'.map Value.ref, n, ?_, hn⟩, rfl, q _ ts' (I.hok.fresh (Nat.le_succ _)) h2⟩
    exact vals_refs ts'
  · subst e
    obtain ⟨it2, r2, ⟨o, ho, hc, n, hd⟩, _⟩ := I.tuple z
    obtain ⟨as, hr⟩ := ints_reads (h := s.heap) r2
    exact ⟨as, .tuple ho hc hd (by simpa using hr)⟩
end Sb
end
section
set_option maxHeartbeats 4000000
namespace Sb
open PySem PySem.Spec PySem.Calls PyProof.Rows L2 Evl
abbrev rIsN : R2 := fun x y H Q => y = .non ∧ Q (.bl (decide (x = .non))) H
abbrev rNotN : R2 := fun x y H Q => y = .non ∧ Q (.bl (!decide (x = .non))) H
/-- the scope of the comprehension that a def returns -/
def lcScope (b : List Stmt) : Scope := match b with
  | [.Return (some (.ListComp _ _ sc _)) _] => sc
  | _ => { kind := .function, names := [], isGenerator := false, isCoroutine := false }
/-! ### promises of defs that leave all that stands as it stands, in short -/
def spI1 (f : Int → V) : Sp := fun vs H Q _ => ∃ a, vs = [.int a] ∧ ∀ H', Ex H H' → Q (f a) H'
def spI2 (f : Int → Int → V) : Sp := fun vs H Q _ => ∃ a b, vs = [.int a, .int b] ∧ ∀ H', Ex H H' → Q (f a b) H'
def spI3 (f : Int → Int → Int → V) : Sp := fun vs H Q _ => ∃ a b c, vs = [.int a, .int b, .int c] ∧ ∀ H', Ex H H' → Q (f a b c) H'
/-- of one list of whole numbers, at most 1000 -/
def spL1 (K : PySem.W.Frag) (C : List Int → Prop) (f : List Int → V) : Sp := fun vs H Q _ => ∃ (a : Addr) (ns : List Int), vs = [.ref a] ∧ SqL K H a (ns.map V.int) ∧ (ns.length ≤ 1000 ∧ C ns) ∧ ∀ H', Ex H H' → Q (f ns) H'
section
variable {K : PySem.W.Frag} {σ : L2.St} {H : Hp} {Q : VK} {E : XK} {vs : List V}
theorem spI1_len {f : Int → V} (h : spI1 f vs H Q E) : vs.length = 1 := by
  obtain ⟨a, rfl, _⟩ := h
  rfl
theorem spI2_len {f : Int → Int → V} (h : spI2 f vs H Q E) : vs.length = 2 := by
  obtain ⟨a, b, rfl, _⟩ := h
  rfl
theorem spI3_len {f : Int → Int → Int → V} (h : spI3 f vs H Q E) : vs.length = 3 := by
  obtain ⟨a, b, c, rfl, _⟩ := h
  rfl
theorem spL1_len {C : List Int → Prop} {f : List Int → V} (h : spL1 K C f vs H Q E) : vs.length = 1 := by
  obtain ⟨a, b, rfl, _⟩ := h
  rfl
variable {ta tb tc : TE} {E' : XK}
theorem ev_I1 {f : Int → V} {a : Int} (h : Ev ta σ H (.int a)) : Ev (tCall (spI1 f) [] E' (tCons ta tNil)) σ H (f a) := ev_call (ea_cons h ea_nil) fun _ _ _ q _ => ⟨a, rfl, q⟩
theorem ev_I2 {f : Int → Int → V} {a b : Int} (h : Ev ta σ H (.int a)) (h2 : Ev tb σ H (.int b)) : Ev (tCall (spI2 f) [] E' (tCons ta (tCons tb tNil))) σ H (f a b) := ev_call (ea_cons h (ea_cons h2 ea_nil)) fun _ _ _ q _ => ⟨a, b, rfl, q⟩
theorem ev_I3 {f : Int → Int → Int → V} {a b c : Int} (h : Ev ta σ H (.int a)) (h2 : Ev tb σ H (.int b)) (h3 : Ev tc σ H (.int c)) : Ev (tCall (spI3 f) [] E' (tCons ta (tCons tb (tCons tc tNil)))) σ H (f a b c) := ev_call (ea_cons h (ea_cons h2 (ea_cons h3 ea_nil))) fun _ _ _ q _ => ⟨a, b, c, rfl, q⟩
theorem ev_L1 {C : List Int → Prop} {f : List Int → V} {a : Addr} {ns : List Int} (h : Ev ta σ H (.ref a)) (hs : SqL K H a (ns.map V.int)) (hl : ns.length ≤ 1000) (hc : C ns) : Ev (tCall (spL1 K C f) [] E' (tCons ta tNil)) σ H (f ns) :=
  ev_call (ea_cons h ea_nil) fun _ e _ q _ => ⟨a, ns, rfl, ex_l e hs, ⟨hl, hc⟩, q⟩
/-! ### own steps -/
theorem ev_int {i j : Int} (h : Ev ta σ H (.int i)) (e : i = j) : Ev ta σ H (.int j) := e ▸ h
theorem ev_bl {i j : Bool} (h : Ev ta σ H (.bl i)) (e : i = j) : Ev ta σ H (.bl j) := e ▸ h
theorem ev_add {i j : Int} (h : Ev ta σ H (.int i)) (h2 : Ev tb σ H (.int j)) : Ev (tOp (rI0 fun i j => .int (i + j)) ta tb) σ H (.int (i + j)) := ev_op h h2 rv_I0
theorem ev_sub {i j : Int} (h : Ev ta σ H (.int i)) (h2 : Ev tb σ H (.int j)) : Ev (tOp (rI0 fun i j => .int (i - j)) ta tb) σ H (.int (i - j)) := ev_op h h2 rv_I0
theorem ev_mul {i j : Int} (h : Ev ta σ H (.int i)) (h2 : Ev tb σ H (.int j)) (hc : CMul i j) : Ev (tOp (rI CMul fun i j => .int (i * j)) ta tb) σ H (.int (i * j)) := ev_op h h2 (rv_I hc)
theorem ev_div {i j : Int} (h : Ev ta σ H (.int i)) (h2 : Ev tb σ H (.int j)) (hc : 0 < j ∧ j < 1073741824) : Ev (tOp (rI CDiv fun i j => .int (i / j)) ta tb) σ H (.int (i / j)) := ev_op h h2 (rv_I hc)
theorem ev_divW {i j : Int} (h : Ev ta σ H (.int i)) (h2 : Ev tb σ H (.int j)) (hc : CDivW i j) : Ev (tOp (rI CDivW fun i j => .int (i / j)) ta tb) σ H (.int (i / j)) := ev_op h h2 (rv_I hc)
theorem ev_mod {i j : Int} (h : Ev ta σ H (.int i)) (h2 : Ev tb σ H (.int j)) (hc : 0 < j) : Ev (tOp (rI (fun _ j => 0 < j) fun i j => .int (i % j)) ta tb) σ H (.int (i % j)) := ev_op h h2 (rv_I (C := fun _ j => 0 < j) hc)
theorem ev_neg {i : Int} (h : Ev ta σ H (.int i)) : Ev (tUn (rU fun i => .int (-i)) ta) σ H (.int (-i)) := ev_un h ru_neg
theorem ev_lt {i j : Int} (h : Ev ta σ H (.int i)) (h2 : Ev tb σ H (.int j)) : Ev (tOp (rI0 fun i j => .bl (decide (i < j))) ta tb) σ H (.bl (decide (i < j))) := ev_op h h2 rv_I0
theorem ev_le {i j : Int} (h : Ev ta σ H (.int i)) (h2 : Ev tb σ H (.int j)) : Ev (tOp (rI0 fun i j => .bl (decide (i ≤ j))) ta tb) σ H (.bl (decide (i ≤ j))) := ev_op h h2 rv_I0
theorem ev_gt {i j : Int} (h : Ev ta σ H (.int i)) (h2 : Ev tb σ H (.int j)) : Ev (tOp (rI0 fun i j => .bl (decide (j < i))) ta tb) σ H (.bl (decide (j < i))) := ev_op h h2 rv_I0
theorem ev_ge {i j : Int} (h : Ev ta σ H (.int i)) (h2 : Ev tb σ H (.int j)) : Ev (tOp (rI0 fun i j => .bl (decide (j ≤ i))) ta tb) σ H (.bl (decide (j ≤ i))) := ev_op h h2 rv_I0
theorem ev_eqi {i j : Int} (h : Ev ta σ H (.int i)) (h2 : Ev tb σ H (.int j)) : Ev (tOp rEq ta tb) σ H (.bl (i == j)) := ev_is (ev_op h h2 (rv_eq rfl)) (by rw [L2.dec_int])
theorem ev_nei {i j : Int} (h : Ev ta σ H (.int i)) (h2 : Ev tb σ H (.int j)) : Ev (tOp rNe ta tb) σ H (.bl (!(i == j))) := ev_is (ev_op h h2 (rv_ne rfl)) (by rw [L2.dec_int])
theorem ev_isN {v : V} (h : Ev ta σ H v) : Ev (tOp rIsN ta (tC .non)) σ H (.bl (decide (v = .non))) := ev_op h ev_c fun H1 _ _ q => ⟨rfl, q H1 (Ex.refl H1)⟩
theorem ev_notN {v : V} (h : Ev ta σ H v) : Ev (tOp rNotN ta (tC .non)) σ H (.bl (!decide (v = .non))) := ev_op h ev_c fun H1 _ _ q => ⟨rfl, q H1 (Ex.refl H1)⟩
theorem ev_fld {a C dx : Addr} {fs : List (Str × V)} {f : Str} {v : V} (h : Ev ta σ H (.ref a)) (ho : H a = some (.ins C dx fs)) (hc : Cls K C) (hn : NoAttr K C f) (hl : fs.lookup f = some v) : Ev (tFld K ta f) σ H v := fun H1 e Q q =>
  h H1 e _ fun H2 e2 => ⟨a, C, dx, fs, v, rfl, e2 _ _ (e _ _ ho), hc, hn, hl, q H2 e2⟩
theorem ev_ixL {a : Addr} {xs : List V} {i : Int} {v : V} (h : Ev ta σ H (.ref a)) (h2 : Ev tb σ H (.int i)) (hs : SqL K H a xs) (hi : atI xs i = some v) : Ev (tOp (rIxL K) ta tb) σ H v := ev_op h h2 (rv_ixL hs hi)
theorem ev_ixT {a : Addr} {xs : List V} {i : Int} {v : V} (h : Ev ta σ H (.ref a)) (h2 : Ev tb σ H (.int i)) (hs : SqT K H a xs) (hi : atI xs i = some v) : Ev (tOp (rIxT K) ta tb) σ H v := ev_op h h2 (rv_ixT hs hi)
theorem at_int {xs : List Int} {i : Int} {n : Nat} {v : Int} (e : i = (n : Int)) (h : xs[n]? = some v) : atI (xs.map V.int) i = some (.int v) := at_of e (by rw [List.getElem?_map, h]; rfl)
theorem at_ref {xs : List Addr} {i : Int} {n : Nat} {v : Addr} (e : i = (n : Int)) (h : xs[n]? = some v) : atI (xs.map V.ref) i = some (.ref v) := at_of e (by rw [List.getElem?_map, h]; rfl)
theorem ev_lenI {a : Addr} {ns : List Int} (h : Ev ta σ H (.ref a)) (hs : SqL K H a (ns.map V.int)) : Ev (tCB (rLenS K) (tCons ta tNil)) σ H (.int (ns.length : Int)) := ev_is (ev_len h hs) (by rw [List.length_map])
/-! ### comprehensions whose items are values -/
theorem get_take {α : Type} {l : List α} {i : Nat} {x : α} (h : l[i]? = some x) : l.take (i + 1) = l.take i ++ [x] := by
  rw [List.take_add_one, h]
  rfl
theorem el_map {a : Addr} {xs : List V} {tl te : TE} {j : Nat} {vs : List Nat} (f : V → V) (h : Ev tl σ H (.ref a)) (hx : SqL K H a xs) (hz : xs.length < 100000) (hw : ∀ x, wipe ((wipe σ vs).set j (some x)) vs = wipe σ vs)
    (he : ∀ (x : V) , x ∈ xs → Ev te ((wipe σ vs).set j (some x)) H (f x)) : EvL (tLc (iList K tl) (gName j) tYes te vs) σ H (xs.map f) := fun H0 e Q q => h H0 e _ fun H1 e1 => ⟨a, rfl, ⟨xs, ex_l (e.trans e1) hx⟩, fun Dl hD =>
  lc_list (xs := xs) (fun i H' => Ex H1 H' ∧ H' Dl = some (.lst ((xs.take i).map f))) ⟨Ex.new hD, upd_same⟩ (fun i H' _ p => ex_l ((e.trans e1).trans p.1) hx)
    (fun i x H' hi p => ⟨hw x, by
      show te ((wipe σ vs).set j (some x)) H' fun y H4 => _
      refine he x (List.mem_of_getElem? hi) H' ((e.trans e1).trans p.1) _ fun H4 e4 => ⟨(xs.take i).map f, e4 _ _ p.2, sz_lt (by rw [List.length_map, List.length_take]; omega), Ex.mut (p.1.trans e4) hD, ?_⟩
      rw [get_take hi, List.map_append]
      exact upd_same⟩)
    (fun H' p => q Dl H' (fresh_back e1 hD) (e1.trans p.1) (by rw [p.2, List.take_length]))⟩
/-- all([..]) -/
theorem ev_all {tl : TE} {bs : List Bool} (h : EvL tl σ H (bs.map V.bl)) : Ev (tCB (rAll K) (tCons tl tNil)) σ H (.bl (bs.all id)) := fun H1 e Q q =>
  h H1 e _ fun p H2 _ e2 hp => ⟨p, bs, rfl, sq_of hp, q H2 e2⟩
theorem ev_sum {tl : TE} {ns : List Int} (h : EvL tl σ H (ns.map V.int)) : Ev (tCB (rSum K) (tCons tl tNil)) σ H (.int ns.sum) := fun H1 e Q q =>
  h H1 e _ fun p H2 _ e2 hp => ⟨p, ns, rfl, sq_of hp, q H2 e2⟩
theorem ev_allMap {ns : List Int} {te : TE} {j : Nat} {vs : List Nat} {tl : TE} (f : Int → Bool) (h : EvL tl σ H (ns.map V.int)) (hz : ns.length ≤ 1000) (hw : ∀ x, wipe ((wipe σ vs).set j (some x)) vs = wipe σ vs)
    (he : ∀ (H1 : Hp) (n : Int) , Ex H H1 → n ∈ ns → Ev te ((wipe σ vs).set j (some (.int n))) H1 (.bl (f n))) : Ev (tCB (rAll K) (tCons (tLc (iList K tl) (gName j) tYes te vs) tNil)) σ H (.bl (ns.all f)) := by
  intro H0 e Q q
  refine h H0 e _ fun a H1 ha e1 hx => ?_
  have hl : EvL (tLc (iList K (tC (.ref a))) (gName j) tYes te vs) σ H1 ((ns.map V.int).map fun v => match v with
    | .int n => .bl (f n)
    | _ => .non) := el_map _ ev_c (sq_of hx) (by rw [List.length_map]; omega) hw fun x hm => by
      obtain ⟨n, hn, rfl⟩ := List.mem_map.mp hm
      exact he H1 n (e.trans e1) hn
  have e2 : ((ns.map V.int).map fun v => match v with
    | .int n => V.bl (f n)
    | _ => .non) = (ns.map f).map V.bl := by
    rw [List.map_map, List.map_map]
    rfl
  rw [e2] at hl
  have z := ev_all (K := K) hl
  have e3 : ((ns.map f).all id) = ns.all f := by
    rw [List.all_map]
    rfl
  rw [e3] at z
  exact z H1 (Ex.refl H1) Q fun H2 e4 => q H2 (e1.trans e4)
theorem ev_allMapE {a : Addr} {ns : List Int} {te : TE} {j : Nat} {vs : List Nat} {tl : TE} (f : Int → Bool) (h : Ev tl σ H (.ref a)) (hx : SqL K H a (ns.map V.int)) (hz : ns.length ≤ 1000) (hw : ∀ x, wipe ((wipe σ vs).set j (some x)) vs = wipe σ vs)
    (he : ∀ (n : Int), n ∈ ns → Ev te ((wipe σ vs).set j (some (.int n))) H (.bl (f n))) : Ev (tCB (rAll K) (tCons (tLc (iList K tl) (gName j) tYes te vs) tNil)) σ H (.bl (ns.all f)) := by
  have hl : EvL (tLc (iList K tl) (gName j) tYes te vs) σ H ((ns.map V.int).map fun v => match v with
    | .int n => .bl (f n)
    | _ => .non) := el_map _ h hx (by rw [List.length_map]; omega) hw fun x hm => by
      obtain ⟨n, hn, rfl⟩ := List.mem_map.mp hm
      exact he n hn
  have e2 : ((ns.map V.int).map fun v => match v with
    | .int n => V.bl (f n)
    | _ => .non) = (ns.map f).map V.bl := by
    rw [List.map_map, List.map_map]
    rfl
  rw [e2] at hl
  have z := ev_all (K := K) hl
  have e3 : ((ns.map f).all id) = ns.all f := by
    rw [List.all_map]
    rfl
  rw [e3] at z
  exact z
theorem el_new {a : Addr} {xs : List V} (h : Ev ta σ H (.ref a)) (hx : SqL K H a xs) : ∀ {Q : VK} {H1 : Hp}, Ex H H1 → (∀ H2, Ex H1 H2 → SqL K H2 a xs → Q (.ref a) H2) → ta σ H1 Q := fun {Q H1} e q =>
  h H1 e Q fun H2 e2 => q H2 e2 (ex_l (e.trans e2) hx)
end
/-! ### unpacking -/
section
variable {K : PySem.W.Frag} {σ σ' : L2.St} {H : Hp} {te : TE} {tz : TS} {D : Ends} {a : Addr} {xs : List V} {n : Nat} {gs : TGs}
theorem q_unT (h : Ev te σ H (.ref a)) (hx : SqT K H a xs) (hl : xs.length = n) (hg : ∀ (H' : Hp) (Q : L2.St → Hp → Prop), Q σ' H' → gs xs σ H' Q) (k : ∀ H1, Ex H H1 → tz D σ' H1) : tSeq (tAsg te (gTup K n gs)) tz D σ H :=
  h H (Ex.refl H) _ fun H1 e => ⟨a, xs, rfl, ex_t e hx, hl, hg H1 _ (k H1 e)⟩
theorem q_unL (h : Ev te σ H (.ref a)) (hx : SqL K H a xs) (hl : xs.length = n) (hg : ∀ (H' : Hp) (Q : L2.St → Hp → Prop), Q σ' H' → gs xs σ H' Q) (k : ∀ H1, Ex H H1 → tz D σ' H1) : tSeq (tAsg te (gUnl K n gs)) tz D σ H :=
  h H (Ex.refl H) _ fun H1 e => ⟨a, xs, rfl, ex_l e hx, hl, hg H1 _ (k H1 e)⟩
end
/-! ### neighbours in a list -/
def chain (r : Int → Int → Bool) : List Int → Bool
  | a :: b :: t => r a b && chain r (b :: t)
  | _ => true
theorem chain_iff {r : Int → Int → Bool} : ∀ {l : List Int}, chain r l = true ↔ ∀ (j : Nat) (a b : Int), l[j]? = some a → l[j + 1]? = some b → r a b = true
  | [] => by simp [chain]
  | [a] => by simp [chain]
  | a :: b :: t => by
    show (r a b && chain r (b :: t)) = true ↔ _
    rw [Bool.and_eq_true, chain_iff (l := b :: t)]
    refine ⟨fun ⟨h1, h2⟩ j x y hx hy => ?_, fun h => ⟨h 0 a b rfl rfl, fun j x y hx hy => h (j + 1) x y hx hy⟩⟩
    cases j with
    | zero =>
      cases hx
      cases hy
      exact h1
    | succ j => exact h2 j x y hx hy
theorem chain_loop {K : PySem.W.Frag} {a : Addr} {ns : List Int} {r : Int → Int → Bool} {tc : TT} {D : Ends} {H : Hp} (hs : SqL K H a (ns.map V.int)) (hl : ns.length ≤ 1000)
    (hc : ∀ (i : Nat) (x y : Int) (H' : Hp), Ex H H' → ns[i]? = some x → ns[i + 1]? = some y → EvT tc [some (.ref a), some (.int (1 + (i : Int)))] H' (!r x y))
    (k : ∀ H', Ex H H' → D.rt (.bl (chain r ns)) H') :
    tSeq (tFor (iRng2 (tCons (tC (.int 1)) (tCons (tCB (rLenS K) (tCons (tVar 0) tNil)) tNil))) (gName 1) (tIfS tc (tRet (tC (.bl false))) tNext)) (tRet (tC (.bl true))) D [some (.ref a), none] H := by
  refine q_forR2 (lo := 1) (n := (ns.length : Int)) (ea_cons ev_c (ea_cons (ev_lenI (ev_var rfl) hs) ea_nil)) (by omega)
    (fun i σ' H' => ∃ v, σ' = [some (.ref a), v] ∧ Ex H H' ∧ ∀ (j : Nat) (x y : Int), j < i → ns[j]? = some x → ns[j + 1]? = some y → r x y = true) (fun H1 e => ⟨_, rfl, e, fun j x y hj => absurd hj (Nat.not_lt_zero _)⟩) ?_ ?_
  · rintro i σ' H' hi ⟨v, rfl, e, hp⟩
    have h1 : i + 1 < ns.length := by omega
    obtain ⟨x, hx⟩ : ∃ x, ns[i]? = some x := ⟨ns[i], List.getElem?_eq_getElem (by omega)⟩
    obtain ⟨y, hy⟩ : ∃ y, ns[i + 1]? = some y := ⟨ns[i + 1], List.getElem?_eq_getElem h1⟩
    show tIfS tc (tRet (tC (.bl false))) tNext _ [some (.ref a), some (.int (1 + (i : Int)))] H'
    refine s_if (hc i x y H' e hx hy) (fun hb H1 e1 => s_ret ev_c fun H2 e2 => ?_) (fun hb H1 e1 => ⟨_, rfl, e.trans e1, fun j x' y' hj hx' hy' => ?_⟩)
    · have hr : r x y = false := by simpa using hb
      have z : chain r ns = false := by
        cases q : chain r ns with
        | false => rfl
        | true =>
          have := chain_iff.mp q i x y hx hy
          rw [hr] at this
          cases this
      have kk := k H2 ((e.trans e1).trans e2)
      rw [z] at kk
      exact kk
    · rcases Nat.lt_succ_iff_lt_or_eq.mp hj with h | h
      · exact hp j x' y' h hx' hy'
      · subst h
        rw [hx] at hx'
        rw [hy] at hy'
        cases hx'
        cases hy'
        simpa using hb
  · rintro σ' H' ⟨v, rfl, e, hp⟩
    refine s_ret ev_c fun H2 e2 => ?_
    have z : chain r ns = true := chain_iff.mpr fun j x y hx hy => hp j x y (by
      have := (List.getElem?_eq_some_iff.mp hy).1
      omega) hx hy
    have kk := k H2 (e.trans e2)
    rw [z] at kk
    exact kk
/-! ### ranges with a step -/
theorem RgC_up {i j c : Int} (h0 : 0 ≤ i) (h1 : i ≤ 100000) (h2 : 0 ≤ j) (h3 : j ≤ 100000) (c0 : 1 ≤ c) (c1 : c ≤ 100000) : RgC i j c (if i < j then (j - i - 1) / c + 1 else 0).toNat := by
  have hd : 0 ≤ (j - i - 1) / c ∨ ¬ i < j := by
    by_cases q : i < j
    · exact .inl (Int.ediv_nonneg (by omega) (by omega))
    · exact .inr q
  have hq : (j - i - 1) / c ≤ 100000 ∨ ¬ i < j := by
    by_cases q : i < j
    · refine .inl ?_
      have := Int.ediv_le_self c (show (0 : Int) ≤ j - i - 1 by omega)
      omega
    · exact .inr q
  have hs : Builtin.Range.rangeSize i j c = (if i < j then (j - i - 1) / c + 1 else 0) := by
    unfold Builtin.Range.rangeSize
    rw [if_pos (by omega)]
  refine ⟨by omega, by omega, ?_, ?_⟩
  · unfold Builtin.Range.small
    rw [hs]
    simp only [Builtin.Range.rangeFitsLong, Bool.and_eq_true, Bool.or_eq_true, decide_eq_true_eq, beq_iff_eq]
    rw [if_pos (show c > 0 by omega), Bool.and_eq_true, decide_eq_true_eq, decide_eq_true_eq]
    refine ⟨⟨⟨⟨⟨by omega, by omega⟩, by omega, by omega⟩, by omega, by omega⟩, ?_⟩, .inr ⟨by omega, by omega⟩⟩
    split
    · rcases hd with z | z
      · rcases hq with y | y <;> omega
      · omega
    · omega
  · rw [hs]
    split
    · rcases hd with z | z <;> omega
    · rfl
theorem RgC_up' {i j c : Int} {n : Nat} (h0 : 0 ≤ i) (h1 : i ≤ 100000) (h2 : 0 ≤ j) (h3 : j ≤ 100000) (c0 : 1 ≤ c) (c1 : c ≤ 100000) (hn : (if i < j then (j - i - 1) / c + 1 else 0) = (n : Int)) : RgC i j c n := by
  have h := RgC_up h0 h1 h2 h3 c0 c1
  rw [hn] at h
  simpa using h
theorem lc_rangeC {lo c : Int} {n : Nat} {g : TG} {tt : TT} {te : TE} {vs : List Nat} {σ : L2.St} {H1 : Hp} {D : Addr} {Qd : Hp → Prop} (Pv : Nat → Hp → Prop) (h0 : Pv 0 (upd H1 D (.lst [])))
    (hs : ∀ i H, i < n → Pv i H → g (.int (lo + (i : Nat) * c)) (wipe σ vs) H fun σ2 H2 => wipe σ2 vs = wipe σ vs ∧ tt σ2 H2 fun b H3 =>
      if b = true then te σ2 H3 fun y H4 => ∃ acc, H4 D = some (.lst acc) ∧ acc.length < sizeLine ∧ Pv (i + 1) (upd H4 D (.lst (acc ++ [y]))) else Pv (i + 1) H3) (hd : ∀ H, Pv n H → Qd H) :
    ∃ W : Nat → Nat → Hp → Prop, (∃ m, W 0 m (upd H1 D (.lst []))) ∧ ∀ i m H, W i m H →
      ((Itc lo c n).stop i H ∧ Qd H) ∨ ((Itc lo c n).go i H ∧ ∃ Nx : Hp → Prop, (∀ H', Nx H' → ∃ m', m' < m ∧ W (i + 1) m' H') ∧ ∀ x H', (Itc lo c n).yld i H x H' → g x (wipe σ vs) H' fun σ2 H2 => wipe σ2 vs = wipe σ vs ∧ tt σ2 H2 fun b H3 =>
        if b = true then te σ2 H3 fun y H4 => ∃ acc, H4 D = some (.lst acc) ∧ acc.length < sizeLine ∧ Nx (upd H4 D (.lst (acc ++ [y]))) else Nx H3) := by
  refine ⟨fun i m H => m = n - i ∧ i ≤ n ∧ Pv i H, ⟨n, by simp, Nat.zero_le _, h0⟩, ?_⟩
  rintro i m H ⟨rfl, hi, p⟩
  by_cases hlt : i < n
  · refine .inr ⟨hlt, Pv (i + 1), fun H' p' => ⟨n - (i + 1), by omega, rfl, hlt, p'⟩, fun x H' y => ?_⟩
    obtain ⟨e, y⟩ := y
    subst e y
    exact hs i _ hlt p
  · have e : i = n := by omega
    subst e
    exact .inl ⟨Nat.le_refl _, hd H p⟩
/-! ### comprehensions whose items are objects -/
section
variable {K : PySem.W.Frag} {σ : L2.St} {H : Hp}
/-- what a comprehension has made so far: D's items, each told by R -/
structure Made (H H' : Hp) (D : Addr) (R : Nat → V → Hp → Prop) (i : Nat) : Prop where
  ex : Ex H H'
  at_ : ∃ ys : List V, H' D = some (.lst ys) ∧ ys.length = i ∧ ∀ j y, ys[j]? = some y → R j y H'
theorem Made.zero {R : Nat → V → Hp → Prop} {D : Addr} (hD : H D = none) : Made H (upd H D (.lst [])) D R 0 := ⟨Ex.new hD, [], upd_same, rfl, fun j y h => by simp at h⟩
/-- the item came with the heap at H4; then it is appended -/
theorem Made.step {H' H4 : Hp} {R : Nat → V → Hp → Prop} {D : Addr} {i : Nat} {y : V} (hD : H D = none) (mono : ∀ i y H1 H2 zs, H1 D = some (.lst zs) → R i y H1 → (∀ a o, a ≠ D → H1 a = some o → H2 a = some o) → R i y H2) (m : Made H H' D R i) (e : Ex H' H4) (hy : R i y H4) (hz : i < 100000) :
    ∃ acc, H4 D = some (.lst acc) ∧ acc.length < sizeLine ∧ Made H (upd H4 D (.lst (acc ++ [y]))) D R (i + 1) := by
  obtain ⟨ex, ys, h1, h2, h3⟩ := m
  have up : ∀ a o, a ≠ D → H4 a = some o → (upd H4 D (.lst (ys ++ [y]))) a = some o := fun a o hne h => by
    rw [upd_ne hne]
    exact h
  refine ⟨ys, e _ _ h1, sz_lt (by omega), Ex.mut (ex.trans e) hD, ys ++ [y], upd_same, by simp [h2], fun j z hz => ?_⟩
  by_cases c : j < ys.length
  · rw [List.getElem?_append_left c] at hz
    exact mono _ _ _ _ _ h1 (h3 j z hz) fun a o hne h => up a o hne (e a o h)
  · rw [List.getElem?_append_right (by omega)] at hz
    have c0 : j - ys.length = 0 := by
      have := (List.getElem?_eq_some_iff.mp hz).1
      simp at this
      omega
    rw [c0] at hz
    cases hz
    have : j = i := by omega
    rw [this]
    exact mono _ _ _ _ _ (e _ _ h1) hy up
/-- what follows of a list made item by item -/
abbrev MadeK (H : Hp) (R : Nat → V → Hp → Prop) (n : Nat) (Q : VK) : Prop := ∀ p (ys : List V) H2, H p = none → Ex H H2 → H2 p = some (.lst ys) → ys.length = n → (∀ j y, ys[j]? = some y → R j y H2) → Q (.ref p) H2
/-- over a range with a step -/
theorem lc_relC {ta : TA} {te : TE} {lo hi c : Int} {n : Nat} {j : Nat} {vs : List Nat} {Q : VK} (R : Addr → Nat → V → Hp → Prop) (mono : ∀ D i y H1 H2 zs, H1 D = some (.lst zs) → R D i y H1 → (∀ a o, a ≠ D → H1 a = some o → H2 a = some o) → R D i y H2) (h : EvA ta σ H [.int lo, .int hi, .int c]) (hn : RgC lo hi c n) (hz : n < 100000) (hw : ∀ x, wipe ((wipe σ vs).set j (some x)) vs = wipe σ vs)
    (he : ∀ (D : Addr) (i : Nat) (H1 : Hp) (zs : List V), H D = none → Ex H H1 → H1 D = some (.lst zs) → i < n → ∀ Q : VK, (∀ y H2, Ex H1 H2 → R D i y H2 → Q y H2) → te ((wipe σ vs).set j (some (.int (lo + (i : Nat) * c)))) H1 Q)
    (k : ∀ p, MadeK H (R p) n (fun v H2 => v = .ref p → Q v H2)) : tLc (iRng3 ta) (gName j) tYes te vs σ H Q := h H (Ex.refl H) _ fun H0 e0 => ⟨lo, hi, c, n, rfl, hn, fun D hD =>
  lc_rangeC (fun i H' => Made H0 H' D (R D) i) (Made.zero hD) (fun i H' hi m => ⟨hw _, by
      show te ((wipe σ vs).set j (some (.int (lo + (i : Nat) * c)))) H' fun y H4 => _
      obtain ⟨_, zs, hzs, _⟩ := id m
      exact he D i H' zs (fresh_back e0 hD) (e0.trans m.ex) hzs hi _ fun y H4 e4 hy => m.step hD (mono D) e4 hy (by omega)⟩)
    (fun H' m => by
      obtain ⟨ex, ys, h1, h2, h3⟩ := m
      exact k D D ys H' (fresh_back e0 hD) (e0.trans ex) h1 h2 h3 rfl)⟩
/-- over a list -/
theorem lc_relL {tl te : TE} {a : Addr} {xs : List V} {j : Nat} {vs : List Nat} {Q : VK} (R : Addr → Nat → V → Hp → Prop) (mono : ∀ D i y H1 H2 zs, H1 D = some (.lst zs) → R D i y H1 → (∀ a o, a ≠ D → H1 a = some o → H2 a = some o) → R D i y H2) (h : Ev tl σ H (.ref a)) (hx : SqL K H a xs) (hz : xs.length < 100000) (hw : ∀ x, wipe ((wipe σ vs).set j (some x)) vs = wipe σ vs)
    (he : ∀ (D : Addr) (i : Nat) (x : V) (H1 : Hp) (zs : List V), H D = none → Ex H H1 → H1 D = some (.lst zs) → xs[i]? = some x → ∀ Q : VK, (∀ y H2, Ex H1 H2 → R D i y H2 → Q y H2) → te ((wipe σ vs).set j (some x)) H1 Q)
    (k : ∀ p, MadeK H (R p) xs.length (fun v H2 => v = .ref p → Q v H2)) : tLc (iList K tl) (gName j) tYes te vs σ H Q := h H (Ex.refl H) _ fun H0 e0 => ⟨a, rfl, ⟨xs, ex_l e0 hx⟩, fun D hD =>
  lc_list (xs := xs) (fun i H' => Made H0 H' D (R D) i) (Made.zero hD) (fun i H' _ m => ex_l (e0.trans m.ex) hx) (fun i x H' hi m => ⟨hw _, by
      show te ((wipe σ vs).set j (some x)) H' fun y H4 => _
      obtain ⟨_, zs, hzs, _⟩ := id m
      exact he D i x H' zs (fresh_back e0 hD) (e0.trans m.ex) hzs hi _ fun y H4 e4 hy => m.step hD (mono D) e4 hy (by have := (List.getElem?_eq_some_iff.mp hi).1; omega)⟩)
    (fun H' m => by
      obtain ⟨ex, ys, h1, h2, h3⟩ := m
      exact k D D ys H' (fresh_back e0 hD) (e0.trans ex) h1 h2 h3 rfl)⟩
/-- over range(n) -/
theorem lc_relR {ta : TA} {te : TE} {n : Nat} {j : Nat} {vs : List Nat} {Q : VK} (R : Addr → Nat → V → Hp → Prop) (mono : ∀ D i y H1 H2 zs, H1 D = some (.lst zs) → R D i y H1 → (∀ a o, a ≠ D → H1 a = some o → H2 a = some o) → R D i y H2) (h : EvA ta σ H [.int (n : Int)]) (hz : n < 100000) (hw : ∀ x, wipe ((wipe σ vs).set j (some x)) vs = wipe σ vs)
    (he : ∀ (D : Addr) (i : Nat) (H1 : Hp) (zs : List V), H D = none → Ex H H1 → H1 D = some (.lst zs) → i < n → ∀ Q : VK, (∀ y H2, Ex H1 H2 → R D i y H2 → Q y H2) → te ((wipe σ vs).set j (some (.int (i : Int)))) H1 Q)
    (k : ∀ p, MadeK H (R p) n (fun v H2 => v = .ref p → Q v H2)) : tLc (iRng1 ta) (gName j) tYes te vs σ H Q := h H (Ex.refl H) _ fun H0 e0 => ⟨(n : Int), rfl, by omega, by omega, fun D hD => by
  have e1 : (n : Int).toNat = n := by simp
  rw [e1]
  exact lc_range (lo := 0) (fun i H' => Made H0 H' D (R D) i) (Made.zero hD) (fun i H' hi m => ⟨hw _, by
      have e2 : (0 : Int) + (i : Int) = (i : Int) := Int.zero_add _
      show te ((wipe σ vs).set j (some (.int ((0 : Int) + (i : Int))))) H' fun y H4 => _
      rw [e2]
      obtain ⟨_, zs, hzs, _⟩ := id m
      exact he D i H' zs (fresh_back e0 hD) (e0.trans m.ex) hzs hi _ fun y H4 e4 hy => m.step hD (mono D) e4 hy (by omega)⟩)
    (fun H' m => by
      obtain ⟨ex, ys, h1, h2, h3⟩ := m
      exact k D D ys H' (fresh_back e0 hD) (e0.trans ex) h1 h2 h3 rfl)⟩
/-- [x for x in xs if ..]: the kept items themselves -/
theorem lc_keep {tl : TE} {tt : TT} {a : Addr} {xs : List V} {j : Nat} {vs : List Nat} {Q : VK} (f : V → Bool) (h : Ev tl σ H (.ref a)) (hx : SqL K H a xs) (hz : xs.length < 100000) (hw : ∀ x, wipe ((wipe σ vs).set j (some x)) vs = wipe σ vs)
    (hj : ∀ x, ((wipe σ vs).set j (some x))[j]? = some (some x)) (ht : ∀ x H1, Ex H H1 → x ∈ xs → EvT tt ((wipe σ vs).set j (some x)) H1 (f x))
    (k : ∀ p H2, H p = none → Ex H H2 → H2 p = some (.lst (xs.filter f)) → Q (.ref p) H2) : tLc (iList K tl) (gName j) tt (tVar j) vs σ H Q := h H (Ex.refl H) _ fun H0 e0 => ⟨a, rfl, ⟨xs, ex_l e0 hx⟩, fun D hD =>
  lc_list (xs := xs) (fun i H' => Ex H0 H' ∧ H' D = some (.lst ((xs.take i).filter f))) ⟨Ex.new hD, upd_same⟩ (fun i H' _ m => ex_l (e0.trans m.1) hx) (fun i x H' hi m => ⟨hw _, by
      show tt ((wipe σ vs).set j (some x)) H' fun b H3 => _
      refine ht x H' (e0.trans m.1) (List.mem_of_getElem? hi) H' (Ex.refl H') _ fun H3 e3 => ?_
      rw [get_take hi, List.filter_append]
      cases hf : f x with
      | true =>
        show tVar j ((wipe σ vs).set j (some x)) H3 fun y H4 => _
        refine ⟨x, hj x, _, e3 _ _ m.2, sz_lt ?_, Ex.mut (m.1.trans e3) hD, ?_⟩
        · have := List.length_filter_le f (xs.take i)
          rw [List.length_take] at this
          omega
        · rw [List.filter_cons, if_pos hf, List.filter_nil]
          exact upd_same
      | false =>
        show _ ∧ _
        refine ⟨m.1.trans e3, ?_⟩
        rw [List.filter_cons, if_neg (by rw [hf]; decide), List.filter_nil, List.append_nil]
        exact e3 _ _ m.2⟩)
    (fun H' m => by
      rw [List.take_length] at m
      exact k D H' (fresh_back e0 hD) (e0.trans m.1) m.2)⟩
end
/-- a tuple stays while a list is changed -/
theorem sqT_but {K : PySem.W.Frag} {H1 H2 : Hp} {D t : Addr} {xs zs : List V} (hD : H1 D = some (.lst zs)) (h : SqT K H1 t xs) (k : ∀ a o, a ≠ D → H1 a = some o → H2 a = some o) : SqT K H2 t xs := by
  rcases h with (h | ⟨o, h⟩) | h
  · exact .inl (.inl (k _ _ (ne_of h hD (by intro z; cases z)) h))
  · exact .inl (.inr ⟨o, k _ _ (ne_of h hD (by intro z; cases z)) h⟩)
  · exact .inr h
/-! ### lists of tuples -/
theorem tups_ex {K : PySem.W.Frag} {H H' : Hp} (e : Ex H H') {ts : List Addr} {ks : List (List Int)} (h : Tups K H ts ks) : Tups K H' ts ks := Paired.mapP h fun _ _ z => ex_t e z
theorem paired_get2 {α β : Type} {F : α → β → Prop} : ∀ {l : List α} {m : List β}, Paired F l m → ∀ {i : Nat} {x : α} {y : β}, l[i]? = some x → m[i]? = some y → F x y
  | _, _, .nil, i, x, y, h, _ => by simp at h
  | _, _, .cons r t, 0, x, y, h1, h2 => by
    cases h1
    cases h2
    exact r
  | _, _, .cons r t, i + 1, x, y, h1, h2 => paired_get2 t (i := i) h1 h2
theorem tups_get {K : PySem.W.Frag} {H : Hp} {ts : List Addr} {ks : List (List Int)} (h : Tups K H ts ks) {i : Nat} {t : Addr} (ht : ts[i]? = some t) : ∃ k, ks[i]? = some k ∧ SqT K H t (k.map V.int) := by
  have hl := h.length
  have hi := (List.getElem?_eq_some_iff.mp ht).1
  have e : ks[i]? = some ks[i] := List.getElem?_eq_getElem (by omega)
  exact ⟨_, e, paired_get2 h ht e⟩
theorem tups_at {K : PySem.W.Frag} {H : Hp} {ts : List Addr} {ks : List (List Int)} (h : Tups K H ts ks) {i : Nat} {k : List Int} (hk : ks[i]? = some k) : ∃ t, ts[i]? = some t ∧ SqT K H t (k.map V.int) := by
  have hl := h.length
  have hi := (List.getElem?_eq_some_iff.mp hk).1
  have e : ts[i]? = some ts[i] := List.getElem?_eq_getElem (by omega)
  exact ⟨_, e, paired_get2 h e hk⟩
theorem tups_mem {K : PySem.W.Frag} {H : Hp} {ts : List Addr} {ks : List (List Int)} (h : Tups K H ts ks) {t : Addr} (ht : t ∈ ts) : ∃ k ∈ ks, SqT K H t (k.map V.int) := by
  obtain ⟨i, hi⟩ := List.getElem?_of_mem ht
  obtain ⟨k, h1, h2⟩ := tups_get h hi
  exact ⟨k, List.mem_of_getElem? h1, h2⟩
/-- refs told one by one -/
theorem refs_of {α : Type} {F : Addr → α → Prop} : ∀ {ks : List α} {ys : List V}, ys.length = ks.length → (∀ (j : Nat) (y : V) (k : α), ys[j]? = some y → ks[j]? = some k → ∃ t, y = V.ref t ∧ F t k) → ∃ ts : List Addr, ys = ts.map V.ref ∧ Paired F ts ks
  | [], [], _, _ => ⟨[], rfl, .nil⟩
  | [], _ :: _, h, _ => by simp at h
  | _ :: _, [], h, _ => by simp at h
  | k :: ks, y :: ys, h, g => by
    obtain ⟨t, rfl, ht⟩ := g 0 y k rfl rfl
    obtain ⟨ts, rfl, r⟩ := refs_of (ks := ks) (ys := ys) (by simpa using h) fun (j : Nat) y k h1 h2 => g (j + 1) y k h1 h2
    exact ⟨t :: ts, rfl, .cons ht r⟩
/-- a new list of new tuples comes back -/
abbrev RetT (K : PySem.W.Frag) (ks : List (List Int)) (H : Hp) (Q : VK) : Prop := ∀ p (ts : List Addr) H', H p = none → Ex H H' → H' p = some (.lst (ts.map V.ref)) → Tups K H' ts ks → Q (.ref p) H'
theorem el_sl2 {K : PySem.W.Frag} {σ : L2.St} {H : Hp} {te : TE} {a : Addr} {xs : List V} {n : Nat} (h : Ev te σ H (.ref a)) (hs : SqL K H a xs) : EvL (tSl2 K n te) σ H (evens (xs.drop n)) := fun H1 e _ q =>
  h H1 e _ fun H2 e2 => ⟨a, xs, rfl, ex_l (e.trans e2) hs, fun p hp => q p _ (fresh_back e2 hp) (e2.trans (Ex.new hp)) upd_same⟩
end Sb
end
section
set_option maxHeartbeats 4000000
namespace Sb
open PySem PySem.Spec PySem.Calls PyProof.Rows L2 Evl
open TimBuck (Stem Product Piece)
/-! ## What a state must be -/
/-- a stem's points -/
structure PtsOk (l : List (Nat × Nat)) : Prop where
  two : 2 ≤ l.length
  most : l.length ≤ 20
  zero : ∃ d, l[0]? = some (0, d)
  ten : ∀ (i : Nat) (p : Nat × Nat), l[i]? = some p → p.1 % 10 = 0 ∧ p.1 ≤ 2000 ∧ p.2 ≤ 2000
  up : ∀ (i : Nat) (p q : Nat × Nat), l[i]? = some p → l[i + 1]? = some q → p.1 < q.1 ∧ q.2 ≤ p.2
def lastH (l : List (Nat × Nat)) : Nat := (l.getLast?.map fun p => p.1).getD 0
/-- pieces, the last one first, behind one another from the butt to a height -/
def Chn : List Piece → Nat → Prop
  | [], f => f = 0
  | p :: r, f => f = p.begins + p.long + p.over ∧ (p.begins % 10 = 0 ∧ p.long % 10 = 0 ∧ 10 ≤ p.long ∧ p.over % 10 = 0 ∧ p.over ≤ 90 ∧ ∀ k, p.product = some k → k ≤ 7) ∧ Chn r p.begins
structure StemOk (s : Stem) : Prop where
  pts : PtsOk s.points
  len : 10 * s.cells.length = lastH s.points
  gr : ∀ c ∈ s.cells, c.1 ≤ 9
  foot : s.foot ≤ s.top
  chn : Chn s.done s.foot
  crk : s.crooks.length ≤ 20
structure ProdOk (p : Product) : Prop where
  gr : p.grade ≤ 9
  l10 : p.least % 10 = 0
  m10 : p.most % 10 = 0
  l100 : 100 ≤ p.least
  le : p.least ≤ p.most
  m : p.most ≤ 2000
  s10 : p.step % 10 = 0
  s1 : 10 ≤ p.step
  s2 : p.step ≤ 2000
  dvd : (p.most - p.least) % p.step = 0
  cnt : (p.most - p.least) / p.step ≤ 19
  o10 : p.over % 10 = 0
  o : p.over ≤ 90
  pn : p.prices.length ≤ 10
  pp : ∀ r ∈ p.prices, r.2 ≤ 10000000
structure StateOk (S : Wrtibu.State) : Prop where
  st : ∀ s, S.stem = some s → StemOk s
  pl : S.products.length = 8
  pr : ∀ (k : Nat) (p : Product), S.products[k]? = some (some p) → ProdOk p
/-! ## How it lies in the heap -/
def encP (p : Nat × Nat) : List Int := [(p.1 : Int), (p.2 : Int)]
def prodI (o : Option Nat) : Int := match o with
  | some k => (k : Int)
  | none => -1
def encI (p : Piece) : List Int := [(p.begins : Int), prodI p.product, (p.long : Int), (p.over : Int)]
theorem lk_here {k : Str} {v : V} {r : List (Str × V)} : List.lookup k ((k, v) :: r) = some v := by
  have e : (k == k) = true := beq_self_eq_true k
  simp only [List.lookup, e]
theorem lk_past {k g : Str} {v : V} {r : List (Str × V)} (h : (k == g) = false) : List.lookup k ((g, v) :: r) = List.lookup k r := by
  simp only [List.lookup, h]
theorem put_here {f : Str} {v x : V} {r : List (Str × V)} : putF f v ((f, x) :: r) = (f, v) :: r := if_pos rfl
theorem put_past {f g : Str} {v x : V} {r : List (Str × V)} (h : ¬ g = f) : putF f v ((g, x) :: r) = (g, x) :: putF f v r := if_neg h
/-- a stem's addresses -/
structure StA where
  s : Addr
  dx : Addr
  aP : Addr
  aW : Addr
  aG : Addr
  aR : Addr
  aC : Addr
  aI : Addr
  tP : List Addr
  tC : List Addr
  tI : List Addr
def StA.lists (A : StA) : List Addr := [A.aP, A.aW, A.aG, A.aR, A.aC, A.aI]
/-- a stem's attributes -/
def stF (A : StA) (top : Nat) : List (Str × V) := [("points", .ref A.aP), ("top", .int (top : Int)), ("widths", .ref A.aW), ("grades", .ref A.aG), ("rotten", .ref A.aR), ("crooks", .ref A.aC), ("pieces", .ref A.aI)]
section
variable {A : StA} {top : Nat}
theorem stF_points : (stF A top).lookup ("points" : Str) = some (.ref A.aP) := lk_here
theorem stF_top : (stF A top).lookup ("top" : Str) = some (.int (top : Int)) := (lk_past (by decide +kernel)).trans lk_here
theorem stF_widths : (stF A top).lookup ("widths" : Str) = some (.ref A.aW) := (lk_past (by decide +kernel)).trans ((lk_past (by decide +kernel)).trans lk_here)
theorem stF_grades : (stF A top).lookup ("grades" : Str) = some (.ref A.aG) := (lk_past (by decide +kernel)).trans ((lk_past (by decide +kernel)).trans ((lk_past (by decide +kernel)).trans lk_here))
theorem stF_rotten : (stF A top).lookup ("rotten" : Str) = some (.ref A.aR) := (lk_past (by decide +kernel)).trans ((lk_past (by decide +kernel)).trans ((lk_past (by decide +kernel)).trans ((lk_past (by decide +kernel)).trans lk_here)))
theorem stF_crooks : (stF A top).lookup ("crooks" : Str) = some (.ref A.aC) := (lk_past (by decide +kernel)).trans ((lk_past (by decide +kernel)).trans ((lk_past (by decide +kernel)).trans ((lk_past (by decide +kernel)).trans ((lk_past (by decide +kernel)).trans lk_here))))
theorem stF_pieces : (stF A top).lookup ("pieces" : Str) = some (.ref A.aI) := (lk_past (by decide +kernel)).trans ((lk_past (by decide +kernel)).trans ((lk_past (by decide +kernel)).trans ((lk_past (by decide +kernel)).trans ((lk_past (by decide +kernel)).trans ((lk_past (by decide +kernel)).trans lk_here)))))
theorem stF_no {m : Str} (h : ["points", "top", "widths", "grades", "rotten", "crooks", "pieces"].all (fun f => !(m == (f : Str))) = true) : (stF A top).lookup m = none := by
  simp only [List.all_cons, List.all_nil, Bool.and_true, Bool.and_eq_true, Bool.not_eq_true'] at h
  obtain ⟨h1, h2, h3, h4, h5, h6, h7⟩ := h
  exact (lk_past h1).trans ((lk_past h2).trans ((lk_past h3).trans ((lk_past h4).trans ((lk_past h5).trans ((lk_past h6).trans ((lk_past h7).trans rfl))))))
end
def widthsL (s : Stem) : List Int := (List.range (s.top / 5 + 1)).map fun i => ((s.diameter (5 * i) : Nat) : Int)
def gradesL (s : Stem) : List Int := s.cells.map fun c => (c.1 : Int)
def rottenL (s : Stem) : List Int := s.cells.map fun c => if c.2 = true then 1 else 0
structure StemAt (K : PySem.W.Frag) (H : Hp) (A : StA) (s : Stem) : Prop where
  ins : H A.s = some (.ins (He.ga K "Stem") A.dx (stF A s.top))
  pts : H A.aP = some (.lst (A.tP.map V.ref))
  ptT : Tups K H A.tP (s.points.map encP)
  wid : H A.aW = some (.lst ((widthsL s).map V.int))
  gra : H A.aG = some (.lst ((gradesL s).map V.int))
  rot : H A.aR = some (.lst ((rottenL s).map V.int))
  cro : H A.aC = some (.lst (A.tC.map V.ref))
  crT : Tups K H A.tC (s.crooks.map encP)
  pie : H A.aI = some (.lst (A.tI.map V.ref))
  piT : Tups K H A.tI (s.done.reverse.map encI)
  nd : A.lists.Nodup
  ok : StemOk s
theorem StemAt.mono {K : PySem.W.Frag} {H H' : Hp} {A : StA} {s : Stem} (e : Ex H H') (h : StemAt K H A s) : StemAt K H' A s :=
  ⟨e _ _ h.ins, e _ _ h.pts, tups_ex e h.ptT, e _ _ h.wid, e _ _ h.gra, e _ _ h.rot, e _ _ h.cro, tups_ex e h.crT, e _ _ h.pie, tups_ex e h.piT, h.nd, h.ok⟩
/-- a product's addresses -/
structure PrA where
  p : Addr
  dx : Addr
  aQ : Addr
  tQ : List Addr
def prF (p : Product) (aQ : Addr) : List (Str × V) := [("grade", .int (p.grade : Int)), ("first", .int (p.least : Int)), ("last", .int (p.most : Int)), ("step", .int (p.step : Int)), ("least_top", .int (p.top : Int)), ("greatest_butt", .int (p.butt : Int)), ("over", .int (p.over : Int)), ("prices", .ref aQ)]
section
variable {p : Product} {a : Addr}
theorem prF_grade : (prF p a).lookup ("grade" : Str) = some (.int (p.grade : Int)) := lk_here
theorem prF_first : (prF p a).lookup ("first" : Str) = some (.int (p.least : Int)) := (lk_past (by decide +kernel)).trans lk_here
theorem prF_last : (prF p a).lookup ("last" : Str) = some (.int (p.most : Int)) := (lk_past (by decide +kernel)).trans ((lk_past (by decide +kernel)).trans lk_here)
theorem prF_step : (prF p a).lookup ("step" : Str) = some (.int (p.step : Int)) := (lk_past (by decide +kernel)).trans ((lk_past (by decide +kernel)).trans ((lk_past (by decide +kernel)).trans lk_here))
theorem prF_least_top : (prF p a).lookup ("least_top" : Str) = some (.int (p.top : Int)) := (lk_past (by decide +kernel)).trans ((lk_past (by decide +kernel)).trans ((lk_past (by decide +kernel)).trans ((lk_past (by decide +kernel)).trans lk_here)))
theorem prF_greatest_butt : (prF p a).lookup ("greatest_butt" : Str) = some (.int (p.butt : Int)) := (lk_past (by decide +kernel)).trans ((lk_past (by decide +kernel)).trans ((lk_past (by decide +kernel)).trans ((lk_past (by decide +kernel)).trans ((lk_past (by decide +kernel)).trans lk_here))))
theorem prF_over : (prF p a).lookup ("over" : Str) = some (.int (p.over : Int)) := (lk_past (by decide +kernel)).trans ((lk_past (by decide +kernel)).trans ((lk_past (by decide +kernel)).trans ((lk_past (by decide +kernel)).trans ((lk_past (by decide +kernel)).trans ((lk_past (by decide +kernel)).trans lk_here)))))
theorem prF_prices : (prF p a).lookup ("prices" : Str) = some (.ref a) := (lk_past (by decide +kernel)).trans ((lk_past (by decide +kernel)).trans ((lk_past (by decide +kernel)).trans ((lk_past (by decide +kernel)).trans ((lk_past (by decide +kernel)).trans ((lk_past (by decide +kernel)).trans ((lk_past (by decide +kernel)).trans lk_here))))))
theorem prF_no {m : Str} (h : ["grade", "first", "last", "step", "least_top", "greatest_butt", "over", "prices"].all (fun f => !(m == (f : Str))) = true) : (prF p a).lookup m = none := by
  simp only [List.all_cons, List.all_nil, Bool.and_true, Bool.and_eq_true, Bool.not_eq_true'] at h
  obtain ⟨h1, h2, h3, h4, h5, h6, h7, h8⟩ := h
  exact (lk_past h1).trans ((lk_past h2).trans ((lk_past h3).trans ((lk_past h4).trans ((lk_past h5).trans ((lk_past h6).trans ((lk_past h7).trans ((lk_past h8).trans rfl)))))))
end
structure ProdAt (K : PySem.W.Frag) (H : Hp) (A : PrA) (p : Product) : Prop where
  ins : H A.p = some (.ins (He.ga K "Product") A.dx (prF p A.aQ))
  pri : H A.aQ = some (.lst (A.tQ.map V.ref))
  prT : Tups K H A.tQ (p.prices.map encP)
  ok : ProdOk p
theorem ProdAt.mono {K : PySem.W.Frag} {H H' : Hp} {A : PrA} {p : Product} (e : Ex H H') (h : ProdAt K H A p) : ProdAt K H' A p := ⟨e _ _ h.ins, e _ _ h.pri, tups_ex e h.prT, h.ok⟩
/-- a desk's addresses -/
structure DkA where
  d : Addr
  dx : Addr
  pl : Addr
  st : Option StA
  pr : List (Option PrA)
def prV : Option PrA → V
  | none => .non
  | some a => .ref a.p
def stV : Option StA → V
  | none => .non
  | some a => .ref a.s
def dkF (A : DkA) : List (Str × V) := [("stem", stV A.st), ("products", .ref A.pl)]
theorem dkF_stem {A : DkA} : (dkF A).lookup ("stem" : Str) = some (stV A.st) := lk_here
theorem dkF_products {A : DkA} : (dkF A).lookup ("products" : Str) = some (.ref A.pl) := (lk_past (by decide +kernel)).trans lk_here
theorem dkF_no {A : DkA} {m : Str} (h : ["stem", "products"].all (fun f => !(m == (f : Str))) = true) : (dkF A).lookup m = none := by
  simp only [List.all_cons, List.all_nil, Bool.and_true, Bool.and_eq_true, Bool.not_eq_true'] at h
  exact (lk_past h.1).trans ((lk_past h.2).trans rfl)
/-- the products as they lie: a list pl of refs or None -/
structure ProdsAt (K : PySem.W.Frag) (H : Hp) (pl : Addr) (pr : List (Option PrA)) (ps : TimBuck.Products) : Prop where
  lst : H pl = some (.lst (pr.map prV))
  all : Paired (fun (a : Option PrA) (p : Option Product) => match a, p with
    | none, none => True
    | some a, some p => ProdAt K H a p
    | _, _ => False) pr ps
  len : ps.length = 8
theorem ProdsAt.mono {K : PySem.W.Frag} {H H' : Hp} {pl : Addr} {pr : List (Option PrA)} {ps : TimBuck.Products} (e : Ex H H') (h : ProdsAt K H pl pr ps) : ProdsAt K H' pl pr ps :=
  ⟨e _ _ h.lst, Paired.mapP h.all fun a p z => match a, p, z with
    | none, none, _ => trivial
    | some a, some p, z => ProdAt.mono e z, h.len⟩
def StOpt (K : PySem.W.Frag) (H : Hp) : Option StA → Option Stem → Prop
  | none, none => True
  | some a, some s => StemAt K H a s
  | _, _ => False
/-- the lists that belong to the desk -/
def DkA.lists (A : DkA) : List Addr := A.pl :: ((match A.st with
  | some a => a.lists
  | none => []) ++ A.pr.filterMap fun a => a.map fun a => a.aQ)
def DkA.insts (A : DkA) : List Addr := A.pr.filterMap fun a => a.map fun a => a.p
structure DeskAt (K : PySem.W.Frag) (H : Hp) (A : DkA) (S : Wrtibu.State) : Prop where
  ins : H A.d = some (.ins (He.ga K "Desk") A.dx (dkF A))
  pro : ProdsAt K H A.pl A.pr S.products
  st : StOpt K H A.st S.stem
  nl : A.lists.Nodup
  ni : A.insts.Nodup
theorem DeskAt.mono {K : PySem.W.Frag} {H H' : Hp} {A : DkA} {S : Wrtibu.State} (e : Ex H H') (h : DeskAt K H A S) : DeskAt K H' A S := by
  refine ⟨e _ _ h.ins, h.pro.mono e, ?_, h.nl, h.ni⟩
  have z := h.st
  revert z
  cases A.st <;> cases S.stem <;> intro z <;> first | exact z | exact StemAt.mono e z
/-! ## Evaluating attributes -/
section
variable {K : PySem.W.Frag} {mg : Str → Option Value} {σ : L2.St} {H : Hp} {ta : TE}
theorem evS_points (T : Txt K mg) {A : StA} {s : Stem} (h : Ev ta σ H (.ref A.s)) (hs : StemAt K H A s) : Ev (tFld K ta "points") σ H (.ref A.aP) := ev_fld h hs.ins (T.cls 101 rfl) (T.noat 103 rfl) stF_points
theorem evS_top (T : Txt K mg) {A : StA} {s : Stem} (h : Ev ta σ H (.ref A.s)) (hs : StemAt K H A s) : Ev (tFld K ta "top") σ H (.int (s.top : Int)) := ev_fld h hs.ins (T.cls 101 rfl) (T.noat 104 rfl) stF_top
theorem evS_widths (T : Txt K mg) {A : StA} {s : Stem} (h : Ev ta σ H (.ref A.s)) (hs : StemAt K H A s) : Ev (tFld K ta "widths") σ H (.ref A.aW) := ev_fld h hs.ins (T.cls 101 rfl) (T.noat 105 rfl) stF_widths
theorem evS_grades (T : Txt K mg) {A : StA} {s : Stem} (h : Ev ta σ H (.ref A.s)) (hs : StemAt K H A s) : Ev (tFld K ta "grades") σ H (.ref A.aG) := ev_fld h hs.ins (T.cls 101 rfl) (T.noat 106 rfl) stF_grades
theorem evS_rotten (T : Txt K mg) {A : StA} {s : Stem} (h : Ev ta σ H (.ref A.s)) (hs : StemAt K H A s) : Ev (tFld K ta "rotten") σ H (.ref A.aR) := ev_fld h hs.ins (T.cls 101 rfl) (T.noat 107 rfl) stF_rotten
theorem evS_crooks (T : Txt K mg) {A : StA} {s : Stem} (h : Ev ta σ H (.ref A.s)) (hs : StemAt K H A s) : Ev (tFld K ta "crooks") σ H (.ref A.aC) := ev_fld h hs.ins (T.cls 101 rfl) (T.noat 108 rfl) stF_crooks
theorem evS_pieces (T : Txt K mg) {A : StA} {s : Stem} (h : Ev ta σ H (.ref A.s)) (hs : StemAt K H A s) : Ev (tFld K ta "pieces") σ H (.ref A.aI) := ev_fld h hs.ins (T.cls 101 rfl) (T.noat 109 rfl) stF_pieces
theorem evP_grade (T : Txt K mg) {A : PrA} {p : Product} (h : Ev ta σ H (.ref A.p)) (hs : ProdAt K H A p) : Ev (tFld K ta "grade") σ H (.int (p.grade : Int)) := ev_fld h hs.ins (T.cls 120 rfl) (T.noat 122 rfl) prF_grade
theorem evP_first (T : Txt K mg) {A : PrA} {p : Product} (h : Ev ta σ H (.ref A.p)) (hs : ProdAt K H A p) : Ev (tFld K ta "first") σ H (.int (p.least : Int)) := ev_fld h hs.ins (T.cls 120 rfl) (T.noat 123 rfl) prF_first
theorem evP_last (T : Txt K mg) {A : PrA} {p : Product} (h : Ev ta σ H (.ref A.p)) (hs : ProdAt K H A p) : Ev (tFld K ta "last") σ H (.int (p.most : Int)) := ev_fld h hs.ins (T.cls 120 rfl) (T.noat 124 rfl) prF_last
theorem evP_step (T : Txt K mg) {A : PrA} {p : Product} (h : Ev ta σ H (.ref A.p)) (hs : ProdAt K H A p) : Ev (tFld K ta "step") σ H (.int (p.step : Int)) := ev_fld h hs.ins (T.cls 120 rfl) (T.noat 125 rfl) prF_step
theorem evP_least_top (T : Txt K mg) {A : PrA} {p : Product} (h : Ev ta σ H (.ref A.p)) (hs : ProdAt K H A p) : Ev (tFld K ta "least_top") σ H (.int (p.top : Int)) := ev_fld h hs.ins (T.cls 120 rfl) (T.noat 126 rfl) prF_least_top
theorem evP_greatest_butt (T : Txt K mg) {A : PrA} {p : Product} (h : Ev ta σ H (.ref A.p)) (hs : ProdAt K H A p) : Ev (tFld K ta "greatest_butt") σ H (.int (p.butt : Int)) := ev_fld h hs.ins (T.cls 120 rfl) (T.noat 127 rfl) prF_greatest_butt
theorem evP_over (T : Txt K mg) {A : PrA} {p : Product} (h : Ev ta σ H (.ref A.p)) (hs : ProdAt K H A p) : Ev (tFld K ta "over") σ H (.int (p.over : Int)) := ev_fld h hs.ins (T.cls 120 rfl) (T.noat 128 rfl) prF_over
theorem evP_prices (T : Txt K mg) {A : PrA} {p : Product} (h : Ev ta σ H (.ref A.p)) (hs : ProdAt K H A p) : Ev (tFld K ta "prices") σ H (.ref A.aQ) := ev_fld h hs.ins (T.cls 120 rfl) (T.noat 129 rfl) prF_prices
theorem evD_stem (T : Txt K mg) {A : DkA} {S : Wrtibu.State} (h : Ev ta σ H (.ref A.d)) (hs : DeskAt K H A S) : Ev (tFld K ta "stem") σ H (stV A.st) := ev_fld h hs.ins (T.cls 134 rfl) (T.noat 136 rfl) dkF_stem
theorem evD_products (T : Txt K mg) {A : DkA} {S : Wrtibu.State} (h : Ev ta σ H (.ref A.d)) (hs : DeskAt K H A S) : Ev (tFld K ta "products") σ H (.ref A.pl) := ev_fld h hs.ins (T.cls 134 rfl) (T.noat 137 rfl) dkF_products
end
end Sb
end
section
set_option maxHeartbeats 4000000
namespace Sb
open TimBuck (Stem Product Piece diameterIn)
/-! ## Diameters -/
/-- U is the lowest point behind the butt's that is not below x -/
structure Up (l : List (Nat × Nat)) (x U : Nat) : Prop where
  one : 1 ≤ U
  lt : U < l.length
  le : ∃ q, l[U]? = some q ∧ x ≤ q.1
  no : ∀ (j : Nat) (q : Nat × Nat), 1 ≤ j → j < U → l[j]? = some q → q.1 < x
theorem Up.tail {p : Nat × Nat} {l : List (Nat × Nat)} {x U : Nat} (h : Up (p :: l) x (U + 1)) (hU : 1 ≤ U) : Up l x U := by
  obtain ⟨h1, h2, ⟨q, h3, h4⟩, h5⟩ := h
  rw [List.getElem?_cons_succ] at h3
  exact ⟨hU, by simpa using h2, ⟨q, h3, h4⟩, fun j r hj hlt hr => h5 (j + 1) r (by omega) (by omega) (by rw [List.getElem?_cons_succ]; exact hr)⟩
def between (a d b e x : Nat) : Nat := d - ((d - e) * (x - a) + (b - a - 1)) / (b - a)
theorem diameter_up : ∀ (l : List (Nat × Nat)) (x U : Nat) (p q : Nat × Nat), Up l x U → l[U - 1]? = some p → l[U]? = some q → diameterIn l x = between p.1 p.2 q.1 q.2 x
  | [], x, U, p, q, h, _, _ => by have := h.lt; simp at this
  | [_], x, U, p, q, h, _, _ => by have h1 := h.lt; have h2 := h.one; rw [List.length_singleton] at h1; omega
  | (a, d) :: (b, e) :: r, x, U, p, q, h, hp, hq => by
    match U, h with
    | 0, h => exact absurd h.one (by decide)
    | 1, h =>
      obtain ⟨q', h3, h4⟩ := h.le
      cases hp
      cases hq
      cases h3
      exact if_pos h4
    | U + 2, h =>
      have h0 := h.no 1 (b, e) (Nat.le_refl _) (by omega) rfl
      have e1 : diameterIn ((a, d) :: (b, e) :: r) x = diameterIn ((b, e) :: r) x := if_neg (by show ¬ x ≤ b; omega)
      rw [e1]
      exact diameter_up ((b, e) :: r) x (U + 1) p q (h.tail (by omega)) (by simpa using hp) (by simpa using hq)
theorem PtsOk.at_ {l : List (Nat × Nat)} (h : PtsOk l) {i : Nat} (hi : i < l.length) : ∃ p, l[i]? = some p ∧ p.1 % 10 = 0 ∧ p.1 ≤ 2000 ∧ p.2 ≤ 2000 := ⟨l[i], List.getElem?_eq_getElem hi, h.ten i _ (List.getElem?_eq_getElem hi)⟩
theorem lastH_at {l : List (Nat × Nat)} {p : Nat × Nat} (h : l[l.length - 1]? = some p) : lastH l = p.1 := by
  unfold lastH
  rw [List.getLast?_eq_getElem?, h]
  rfl
/-- rising all the way -/
theorem PtsOk.rise {l : List (Nat × Nat)} (h : PtsOk l) {i j : Nat} {p q : Nat × Nat} (hp : l[i]? = some p) (hq : l[j]? = some q) (hij : i < j) : p.1 < q.1 := by
  induction j generalizing q with
  | zero => omega
  | succ j ih =>
    by_cases c : i = j
    · subst c
      exact (h.up i p q hp hq).1
    · have hj : j < l.length := by have := (List.getElem?_eq_some_iff.mp hq).1; omega
      have hr := List.getElem?_eq_getElem hj
      have a := ih hr (by omega)
      have b := (h.up j _ q hr hq).1
      omega
theorem Up.uniq {l : List (Nat × Nat)} {x U W : Nat} (h : Up l x U) (g : Up l x W) : U = W := by
  obtain ⟨q, h1, h2⟩ := h.le
  obtain ⟨r, g1, g2⟩ := g.le
  rcases Nat.lt_trichotomy U W with c | c | c
  · have := g.no U q h.one c h1
    omega
  · exact c
  · have := h.no W r g.one c g1
    omega
/-- the numbers at such a place -/
theorem Up.nums {l : List (Nat × Nat)} {x U : Nat} (o : PtsOk l) (h : Up l x U) : ∃ p q, l[U - 1]? = some p ∧ l[U]? = some q ∧ p.1 ≤ x ∧ x ≤ q.1 ∧ p.1 < q.1 ∧ q.2 ≤ p.2 ∧ p.2 ≤ 2000 ∧ q.1 ≤ 2000 := by
  obtain ⟨q, h1, h2⟩ := h.le
  have hU := h.lt
  have h0 := h.one
  obtain ⟨p, hp, p1, p2, p3⟩ := o.at_ (i := U - 1) (by omega)
  obtain ⟨q1, q2, q3⟩ := o.ten U q h1
  have u := o.up (U - 1) p q hp (by rw [show U - 1 + 1 = U by omega]; exact h1)
  refine ⟨p, q, hp, h1, ?_, h2, u.1, u.2, p3, q2⟩
  by_cases c : U = 1
  · subst c
    obtain ⟨d, hd⟩ := o.zero
    rw [show (1 : Nat) - 1 = 0 from rfl, hd] at hp
    cases hp
    exact Nat.zero_le _
  · exact Nat.le_of_lt (h.no (U - 1) p (by omega) (by omega) hp)
/-- in whole numbers as Python reckons it -/
theorem between_int {a d b e x : Nat} (h1 : a ≤ x) (h2 : x ≤ b) (h3 : a < b) (h4 : e ≤ d) :
    ((between a d b e x : Nat) : Int) = (d : Int) - (((d : Int) - e) * ((x : Int) - a) + ((b : Int) - a) - 1) / ((b : Int) - a) := by
  unfold between
  have hk : ((d - e) * (x - a) + (b - a - 1)) / (b - a) ≤ d - e := by
    have hm : (d - e) * (x - a) ≤ (d - e) * (b - a) := Nat.mul_le_mul_left _ (by omega)
    have : ((d - e) * (x - a) + (b - a - 1)) / (b - a) < d - e + 1 := by
      rw [Nat.div_lt_iff_lt_mul (by omega), Nat.add_mul]
      omega
    omega
  have e1 : (((d : Int) - e) * ((x : Int) - a) + ((b : Int) - a) - 1) = (((d - e) * (x - a) + (b - a - 1) : Nat) : Int) := by
    rw [Int.natCast_add, Int.natCast_mul]
    rw [Int.ofNat_sub h4, Int.ofNat_sub h1]
    omega
  have e2 : ((b : Int) - a) = ((b - a : Nat) : Int) := by omega
  rw [e1, e2, ← Int.natCast_ediv]
  omega
theorem between_le {a d b e x : Nat} : between a d b e x ≤ d := Nat.sub_le _ _
theorem diameter_le {l : List (Nat × Nat)} (o : PtsOk l) {x U : Nat} (h : Up l x U) : diameterIn l x ≤ 2000 := by
  obtain ⟨p, q, h1, h2, _, _, _, _, h3, _⟩ := h.nums o
  rw [diameter_up l x U p q h h1 h2]
  exact Nat.le_trans between_le h3
/-- there is such a place for every height up to the top -/
theorem Up.has {l : List (Nat × Nat)} (o : PtsOk l) {x : Nat} (hx : x ≤ lastH l) : ∃ U, Up l x U := by
  have two := o.two
  have h : ∀ n, n < l.length → ∀ m, m = l.length - 1 - n → (1 ≤ m → ∃ q, l[m]? = some q ∧ x ≤ q.1) → 1 ≤ m → ∃ U, Up l x U := by
    intro n
    induction n with
    | zero =>
      intro hn m hm hq h1
      obtain ⟨q, hq1, hq2⟩ := hq h1
      -- go down from m to the least
      have dn : ∀ k, 1 ≤ k → k < l.length → (∃ q, l[k]? = some q ∧ x ≤ q.1) → ∃ U, Up l x U := by
        intro k
        induction k with
        | zero => intro h; omega
        | succ k ih =>
          intro h1 h2 hh
          by_cases c : k = 0
          · subst c
            exact ⟨1, Nat.le_refl _, h2, hh, fun j q hj hlt => by omega⟩
          · obtain ⟨r, hr, _⟩ := o.at_ (i := k) (by omega)
            by_cases cx : x ≤ r.1
            · exact ih (by omega) (by omega) ⟨r, hr, cx⟩
            · refine ⟨k + 1, by omega, h2, hh, fun j q hj hlt hq => ?_⟩
              by_cases cj : j = k
              · subst cj
                rw [hr] at hq
                cases hq
                omega
              · have := o.rise hq hr (by omega)
                omega
      exact dn m h1 (by omega) ⟨q, hq1, hq2⟩
    | succ n ih =>
      intro hn m hm hq h1
      exact ih (by omega) (l.length - 1 - n) rfl (fun _ => by
        obtain ⟨q, a, b⟩ := hq h1
        obtain ⟨r, hr, _⟩ := o.at_ (i := l.length - 1 - n) (by omega)
        refine ⟨r, hr, ?_⟩
        have := o.rise a hr (by omega)
        omega) (by omega)
  obtain ⟨q, hq, _⟩ := o.at_ (i := l.length - 1) (by omega)
  exact h 0 (by omega) (l.length - 1) (by omega) (fun _ => ⟨q, hq, by rw [lastH_at hq] at hx; exact hx⟩) (by omega)
theorem StemOk.topEq {s : Stem} (h : StemOk s) : s.top = lastH s.points := h.len
theorem StemOk.topLe {s : Stem} (h : StemOk s) : s.top ≤ 2000 := by
  rw [h.topEq]
  obtain ⟨q, hq, h1, h2, _⟩ := h.pts.at_ (i := s.points.length - 1) (by have := h.pts.two; omega)
  rw [lastH_at hq]
  exact h2
theorem StemOk.top10 {s : Stem} (h : StemOk s) : s.top % 10 = 0 := by
  show 10 * s.cells.length % 10 = 0
  omega
theorem StemOk.dia {s : Stem} (h : StemOk s) {x : Nat} (hx : x ≤ s.top) : s.diameter x ≤ 2000 := by
  rw [h.topEq] at hx
  obtain ⟨U, hU⟩ := Up.has h.pts hx
  exact diameter_le h.pts hU
/-! ## Cells -/
theorem grade_is {s : Stem} {a b : Nat} {m : Int} (hm : m ∈ (s.part a b).map (fun c => (c.1 : Int))) (hx : ∀ y ∈ (s.part a b).map (fun c => (c.1 : Int)), y ≤ m) : m = ((s.grade a b : Nat) : Int) := by
  have key : ∀ l : List (Nat × Bool), (∀ c ∈ l, c.1 ≤ l.foldr (fun (x : Nat × Bool) (m : Nat) => max x.1 m) 0) ∧ (l ≠ [] → ∃ c ∈ l, c.1 = l.foldr (fun (x : Nat × Bool) (m : Nat) => max x.1 m) 0) := by
    intro l
    induction l with
    | nil => exact ⟨fun c h => by simp at h, fun h => absurd rfl h⟩
    | cons c r ih =>
      refine ⟨fun d hd => ?_, fun _ => ?_⟩
      · show d.1 ≤ max c.1 (r.foldr _ 0)
        rcases List.mem_cons.mp hd with e | e
        · rw [e]; exact Nat.le_max_left _ _
        · exact Nat.le_trans (ih.1 d e) (Nat.le_max_right _ _)
      · show ∃ d ∈ c :: r, d.1 = max c.1 (r.foldr _ 0)
        by_cases q : r = []
        · subst q
          exact ⟨c, List.mem_cons_self .., by simp⟩
        · obtain ⟨d, h1, h2⟩ := ih.2 q
          by_cases z : c.1 ≤ r.foldr (fun (x : Nat × Bool) (m : Nat) => max x.1 m) 0
          · exact ⟨d, List.mem_cons_of_mem _ h1, by rw [h2, Nat.max_eq_right z]⟩
          · exact ⟨c, List.mem_cons_self .., by rw [Nat.max_eq_left (by omega)]⟩
  obtain ⟨c, hc, rfl⟩ := List.mem_map.mp hm
  have ne : s.part a b ≠ [] := by
    intro e
    rw [e] at hc
    simp at hc
  obtain ⟨d, hd, e⟩ := (key (s.part a b)).2 ne
  have h1 := hx (d.1 : Int) (List.mem_map.mpr ⟨d, hd, rfl⟩)
  have h2 := (key (s.part a b)).1 c hc
  show (c.1 : Int) = (((s.part a b).foldr (fun (x : Nat × Bool) (m : Nat) => max x.1 m) 0 : Nat) : Int)
  rw [← e] at h2 ⊢
  omega
theorem part_len {s : Stem} {a b : Nat} (ha : a % 10 = 0) (hb : b % 10 = 0) (hab : a < b) (ht : b ≤ s.top) : (s.part a b).length = (b - a) / 10 := by
  unfold Stem.part
  rw [List.length_take, List.length_drop]
  have : b ≤ 10 * s.cells.length := ht
  omega
end Sb
end
section
set_option maxHeartbeats 4000000
namespace Sb
open PySem PySem.Spec PySem.Calls PyProof.Rows L2 Evl
section
variable {P : Program} {w : World} {K : PySem.W.Frag} {mg : Str → Option Value} {base : Heap} {vs : List V} {H : Hp} {Q : VK} {E : XK}
/-! ## the ranges -/
abbrev sp_is_within (_ : PySem.W.Frag) : Sp := spI3 fun n lo hi => .bl (TimBase.within lo hi n)
theorem len_is_within (h : sp_is_within K vs H Q E) : vs.length = 3 := spI3_len h
abbrev NL_is_within : List Str := ["number", "least", "most"]
theorem sc_is_within : FnScope NL_is_within ["number", "least", "most"] (defScope s_is_within) := ⟨rfl, rfl, rfl, by decide +kernel, rfl, by decide +kernel, by decide +kernel⟩
def t_is_within (K : PySem.W.Frag) : TS := (tRet (tAndV (tOp (rI0 fun i j => .bl (decide (i ≤ j))) (tVar 1) (tVar 0)) (tOp (rI0 fun i j => .bl (decide (i ≤ j))) (tVar 0) (tVar 2))))
theorem w_is_within (T : Txt K mg) (cdv : Value) (A : Around) (outer : List Env) (s : Shared) (H : Hp) (E : XK) (hr : Room 0 (A.deeper (envOfC "is_within" (defScope s_is_within) s.heap.objs.size (He.fAd K ("is_within", none)) cdv))) :
    PSs (cxOf CX0 P w K mg base NL_is_within "is_within" (defScope s_is_within) (He.fAd K ("is_within", none)) cdv A outer s H E).nox (defBody s_is_within) (t_is_within K) := by
  exact (pss_one (ps_ret (pe_and (pe_cmpR op_le (pv 1) (pv 0) (nomark _)) (pe_one (pe_cmpR op_le (pv 0) (pv 2) (nomark _))))))
theorem pure_is_within (T : Txt K mg) (h : sp_is_within K vs H Q E) : t_is_within K { nx := fun _ H' => Q .non H', rt := Q } (start NL_is_within vs) H := by
  obtain ⟨n, lo, hi, rfl, k⟩ := h
  exact s_ret (ev_andV (ev_le (ev_var rfl) (ev_var rfl)) fun _ => ev_le (ev_var rfl) (ev_var rfl)) k
theorem ok_is_within (T : Txt K mg) : Good P w K mg base ("is_within", none) 1 ["number", "least", "most"] (sp_is_within K) :=
  good_mk (d := d_is_within) T 0 rfl rfl rfl sc_is_within (fun vs H Q E h => len_is_within h) (fun _ _ _ _ _ _ us hl => match us, hl with | [_, _, _], _ => rfl) (fun cdv A outer s H E hr => w_is_within T cdv A outer s H E hr) (fun vs H Q E h => pure_is_within T h)
abbrev sp_is_height (_ : PySem.W.Frag) : Sp := spI1 fun n => .bl (Wrtibu.isHeight n)
theorem len_is_height (h : sp_is_height K vs H Q E) : vs.length = 1 := spI1_len h
abbrev NL_is_height : List Str := ["number"]
theorem sc_is_height : FnScope NL_is_height ["number"] (defScope s_is_height) := ⟨rfl, rfl, rfl, by decide +kernel, rfl, by decide +kernel, by decide +kernel⟩
def t_is_height (K : PySem.W.Frag) : TS := (tRet (tCall (sp_is_within K) [] E0 (tCons (tVar 0) (tCons (tC (.int 0)) (tCons (tC (.int (2000))) tNil)))))
theorem w_is_height (T : Txt K mg) (cdv : Value) (A : Around) (outer : List Env) (s : Shared) (H : Hp) (E : XK) (hr : Room 1 (A.deeper (envOfC "is_height" (defScope s_is_height) s.heap.objs.size (He.fAd K ("is_height", none)) cdv))) :
    PSs (cxOf CX0 P w K mg base NL_is_height "is_height" (defScope s_is_height) (He.fAd K ("is_height", none)) cdv A outer s H E).nox (defBody s_is_height) (t_is_height K) := by
  exact (pss_one (ps_ret (pe_callG (ok_is_within T) (hr.mono (by decide)) rfl (T.glo 0 rfl) (pa_cons (pv 0) (pa_cons (by exact pe_int) (pa_cons (pe_gi rfl (T.int 91 rfl)) pa_nil))))))
theorem pure_is_height (T : Txt K mg) (h : sp_is_height K vs H Q E) : t_is_height K { nx := fun _ H' => Q .non H', rt := Q } (start NL_is_height vs) H := by
  obtain ⟨n, rfl, k⟩ := h
  exact s_ret (ev_I3 (ev_var rfl) ev_c ev_c) k
theorem ok_is_height (T : Txt K mg) : Good P w K mg base ("is_height", none) 2 ["number"] (sp_is_height K) :=
  good_mk (d := d_is_height) T 1 rfl rfl rfl sc_is_height (fun vs H Q E h => len_is_height h) (fun _ _ _ _ _ _ us hl => match us, hl with | [_], _ => rfl) (fun cdv A outer s H E hr => w_is_height T cdv A outer s H E hr) (fun vs H Q E h => pure_is_height T h)
abbrev sp_is_ten (_ : PySem.W.Frag) : Sp := spI1 fun n => .bl (Wrtibu.isTen n)
theorem len_is_ten (h : sp_is_ten K vs H Q E) : vs.length = 1 := spI1_len h
abbrev NL_is_ten : List Str := ["number"]
theorem sc_is_ten : FnScope NL_is_ten ["number"] (defScope s_is_ten) := ⟨rfl, rfl, rfl, by decide +kernel, rfl, by decide +kernel, by decide +kernel⟩
def t_is_ten (K : PySem.W.Frag) : TS := (tRet (tAndV (tCall (sp_is_height K) [] E0 (tCons (tVar 0) tNil)) (tOp rEq (tOp (rI (fun _ j => 0 < j) fun i j => .int (i % j)) (tVar 0) (tC (.int 10))) (tC (.int 0)))))
theorem w_is_ten (T : Txt K mg) (cdv : Value) (A : Around) (outer : List Env) (s : Shared) (H : Hp) (E : XK) (hr : Room 2 (A.deeper (envOfC "is_ten" (defScope s_is_ten) s.heap.objs.size (He.fAd K ("is_ten", none)) cdv))) :
    PSs (cxOf CX0 P w K mg base NL_is_ten "is_ten" (defScope s_is_ten) (He.fAd K ("is_ten", none)) cdv A outer s H E).nox (defBody s_is_ten) (t_is_ten K) := by
  exact (pss_one (ps_ret (pe_and (pe_callG (ok_is_height T) (hr.mono (by decide)) rfl (T.glo 1 rfl) (pa_cons (pv 0) pa_nil)) (pe_one (pe_cmpR op_eq (pe_op op_mod (pv 0) (by exact pe_int)) (by exact pe_int) (nomark _))))))
theorem pure_is_ten (T : Txt K mg) (h : sp_is_ten K vs H Q E) : t_is_ten K { nx := fun _ H' => Q .non H', rt := Q } (start NL_is_ten vs) H := by
  obtain ⟨n, rfl, k⟩ := h
  exact s_ret (ev_andV (ev_I1 (ev_var rfl)) fun _ => ev_eqi (ev_mod (ev_var rfl) ev_c (by decide)) ev_c) k
theorem ok_is_ten (T : Txt K mg) : Good P w K mg base ("is_ten", none) 3 ["number"] (sp_is_ten K) :=
  good_mk (d := d_is_ten) T 2 rfl rfl rfl sc_is_ten (fun vs H Q E h => len_is_ten h) (fun _ _ _ _ _ _ us hl => match us, hl with | [_], _ => rfl) (fun cdv A outer s H E hr => w_is_ten T cdv A outer s H E hr) (fun vs H Q E h => pure_is_ten T h)
abbrev sp_is_length (_ : PySem.W.Frag) : Sp := spI1 fun n => .bl (Wrtibu.isLong n)
theorem len_is_length (h : sp_is_length K vs H Q E) : vs.length = 1 := spI1_len h
abbrev NL_is_length : List Str := ["number"]
theorem sc_is_length : FnScope NL_is_length ["number"] (defScope s_is_length) := ⟨rfl, rfl, rfl, by decide +kernel, rfl, by decide +kernel, by decide +kernel⟩
def t_is_length (K : PySem.W.Frag) : TS := (tRet (tAndV (tCall (sp_is_ten K) [] E0 (tCons (tVar 0) tNil)) (tOp (rI0 fun i j => .bl (decide (j ≤ i))) (tVar 0) (tC (.int 10)))))
theorem w_is_length (T : Txt K mg) (cdv : Value) (A : Around) (outer : List Env) (s : Shared) (H : Hp) (E : XK) (hr : Room 3 (A.deeper (envOfC "is_length" (defScope s_is_length) s.heap.objs.size (He.fAd K ("is_length", none)) cdv))) :
    PSs (cxOf CX0 P w K mg base NL_is_length "is_length" (defScope s_is_length) (He.fAd K ("is_length", none)) cdv A outer s H E).nox (defBody s_is_length) (t_is_length K) := by
  exact (pss_one (ps_ret (pe_and (pe_callG (ok_is_ten T) (hr.mono (by decide)) rfl (T.glo 2 rfl) (pa_cons (pv 0) pa_nil)) (pe_one (pe_cmpR op_ge (pv 0) (by exact pe_int) (nomark _))))))
theorem pure_is_length (T : Txt K mg) (h : sp_is_length K vs H Q E) : t_is_length K { nx := fun _ H' => Q .non H', rt := Q } (start NL_is_length vs) H := by
  obtain ⟨n, rfl, k⟩ := h
  exact s_ret (ev_andV (ev_I1 (ev_var rfl)) fun _ => ev_ge (ev_var rfl) ev_c) k
theorem ok_is_length (T : Txt K mg) : Good P w K mg base ("is_length", none) 4 ["number"] (sp_is_length K) :=
  good_mk (d := d_is_length) T 3 rfl rfl rfl sc_is_length (fun vs H Q E h => len_is_length h) (fun _ _ _ _ _ _ us hl => match us, hl with | [_], _ => rfl) (fun cdv A outer s H E hr => w_is_length T cdv A outer s H E hr) (fun vs H Q E h => pure_is_length T h)
abbrev sp_is_stretch (_ : PySem.W.Frag) : Sp := spI2 fun a b => .bl (Wrtibu.isPart a b)
theorem len_is_stretch (h : sp_is_stretch K vs H Q E) : vs.length = 2 := spI2_len h
abbrev NL_is_stretch : List Str := ["a", "b"]
theorem sc_is_stretch : FnScope NL_is_stretch ["a", "b"] (defScope s_is_stretch) := ⟨rfl, rfl, rfl, by decide +kernel, rfl, by decide +kernel, by decide +kernel⟩
def t_is_stretch (K : PySem.W.Frag) : TS := (tRet (tAndV (tCall (sp_is_ten K) [] E0 (tCons (tVar 0) tNil)) (tAndV (tCall (sp_is_ten K) [] E0 (tCons (tVar 1) tNil)) (tOp (rI0 fun i j => .bl (decide (i < j))) (tVar 0) (tVar 1)))))
theorem w_is_stretch (T : Txt K mg) (cdv : Value) (A : Around) (outer : List Env) (s : Shared) (H : Hp) (E : XK) (hr : Room 3 (A.deeper (envOfC "is_stretch" (defScope s_is_stretch) s.heap.objs.size (He.fAd K ("is_stretch", none)) cdv))) :
    PSs (cxOf CX0 P w K mg base NL_is_stretch "is_stretch" (defScope s_is_stretch) (He.fAd K ("is_stretch", none)) cdv A outer s H E).nox (defBody s_is_stretch) (t_is_stretch K) := by
  exact (pss_one (ps_ret (pe_and (pe_callG (ok_is_ten T) (hr.mono (by decide)) rfl (T.glo 2 rfl) (pa_cons (pv 0) pa_nil)) (pe_and (pe_callG (ok_is_ten T) (hr.mono (by decide)) rfl (T.glo 2 rfl) (pa_cons (pv 1) pa_nil)) (pe_one (pe_cmpR op_lt (pv 0) (pv 1) (nomark _)))))))
theorem pure_is_stretch (T : Txt K mg) (h : sp_is_stretch K vs H Q E) : t_is_stretch K { nx := fun _ H' => Q .non H', rt := Q } (start NL_is_stretch vs) H := by
  obtain ⟨a, b, rfl, k⟩ := h
  exact s_ret (ev_andV (ev_I1 (ev_var rfl)) fun _ => ev_andV (ev_I1 (ev_var rfl)) fun _ => ev_lt (ev_var rfl) (ev_var rfl)) k
theorem ok_is_stretch (T : Txt K mg) : Good P w K mg base ("is_stretch", none) 4 ["a", "b"] (sp_is_stretch K) :=
  good_mk (d := d_is_stretch) T 4 rfl rfl rfl sc_is_stretch (fun vs H Q E h => len_is_stretch h) (fun _ _ _ _ _ _ us hl => match us, hl with | [_, _], _ => rfl) (fun cdv A outer s H E hr => w_is_stretch T cdv A outer s H E hr) (fun vs H Q E h => pure_is_stretch T h)
abbrev sp_is_grade (_ : PySem.W.Frag) : Sp := spI1 fun n => .bl (TimBase.within 0 9 n)
theorem len_is_grade (h : sp_is_grade K vs H Q E) : vs.length = 1 := spI1_len h
abbrev NL_is_grade : List Str := ["number"]
theorem sc_is_grade : FnScope NL_is_grade ["number"] (defScope s_is_grade) := ⟨rfl, rfl, rfl, by decide +kernel, rfl, by decide +kernel, by decide +kernel⟩
def t_is_grade (K : PySem.W.Frag) : TS := (tRet (tCall (sp_is_within K) [] E0 (tCons (tVar 0) (tCons (tC (.int 0)) (tCons (tC (.int (9))) tNil)))))
theorem w_is_grade (T : Txt K mg) (cdv : Value) (A : Around) (outer : List Env) (s : Shared) (H : Hp) (E : XK) (hr : Room 1 (A.deeper (envOfC "is_grade" (defScope s_is_grade) s.heap.objs.size (He.fAd K ("is_grade", none)) cdv))) :
    PSs (cxOf CX0 P w K mg base NL_is_grade "is_grade" (defScope s_is_grade) (He.fAd K ("is_grade", none)) cdv A outer s H E).nox (defBody s_is_grade) (t_is_grade K) := by
  exact (pss_one (ps_ret (pe_callG (ok_is_within T) (hr.mono (by decide)) rfl (T.glo 0 rfl) (pa_cons (pv 0) (pa_cons (by exact pe_int) (pa_cons (pe_gi rfl (T.int 93 rfl)) pa_nil))))))
theorem pure_is_grade (T : Txt K mg) (h : sp_is_grade K vs H Q E) : t_is_grade K { nx := fun _ H' => Q .non H', rt := Q } (start NL_is_grade vs) H := by
  obtain ⟨n, rfl, k⟩ := h
  exact s_ret (ev_I3 (ev_var rfl) ev_c ev_c) k
theorem ok_is_grade (T : Txt K mg) : Good P w K mg base ("is_grade", none) 2 ["number"] (sp_is_grade K) :=
  good_mk (d := d_is_grade) T 5 rfl rfl rfl sc_is_grade (fun vs H Q E h => len_is_grade h) (fun _ _ _ _ _ _ us hl => match us, hl with | [_], _ => rfl) (fun cdv A outer s H E hr => w_is_grade T cdv A outer s H E hr) (fun vs H Q E h => pure_is_grade T h)
abbrev sp_is_diameter (_ : PySem.W.Frag) : Sp := spI1 fun n => .bl (Wrtibu.isHeight n)
theorem len_is_diameter (h : sp_is_diameter K vs H Q E) : vs.length = 1 := spI1_len h
abbrev NL_is_diameter : List Str := ["number"]
theorem sc_is_diameter : FnScope NL_is_diameter ["number"] (defScope s_is_diameter) := ⟨rfl, rfl, rfl, by decide +kernel, rfl, by decide +kernel, by decide +kernel⟩
def t_is_diameter (K : PySem.W.Frag) : TS := (tRet (tCall (sp_is_within K) [] E0 (tCons (tVar 0) (tCons (tC (.int 0)) (tCons (tC (.int (2000))) tNil)))))
theorem w_is_diameter (T : Txt K mg) (cdv : Value) (A : Around) (outer : List Env) (s : Shared) (H : Hp) (E : XK) (hr : Room 1 (A.deeper (envOfC "is_diameter" (defScope s_is_diameter) s.heap.objs.size (He.fAd K ("is_diameter", none)) cdv))) :
    PSs (cxOf CX0 P w K mg base NL_is_diameter "is_diameter" (defScope s_is_diameter) (He.fAd K ("is_diameter", none)) cdv A outer s H E).nox (defBody s_is_diameter) (t_is_diameter K) := by
  exact (pss_one (ps_ret (pe_callG (ok_is_within T) (hr.mono (by decide)) rfl (T.glo 0 rfl) (pa_cons (pv 0) (pa_cons (by exact pe_int) (pa_cons (pe_gi rfl (T.int 92 rfl)) pa_nil))))))
theorem pure_is_diameter (T : Txt K mg) (h : sp_is_diameter K vs H Q E) : t_is_diameter K { nx := fun _ H' => Q .non H', rt := Q } (start NL_is_diameter vs) H := by
  obtain ⟨n, rfl, k⟩ := h
  exact s_ret (ev_I3 (ev_var rfl) ev_c ev_c) k
theorem ok_is_diameter (T : Txt K mg) : Good P w K mg base ("is_diameter", none) 2 ["number"] (sp_is_diameter K) :=
  good_mk (d := d_is_diameter) T 6 rfl rfl rfl sc_is_diameter (fun vs H Q E h => len_is_diameter h) (fun _ _ _ _ _ _ us hl => match us, hl with | [_], _ => rfl) (fun cdv A outer s H E hr => w_is_diameter T cdv A outer s H E hr) (fun vs H Q E h => pure_is_diameter T h)
abbrev sp_is_product_number (_ : PySem.W.Frag) : Sp := spI1 fun n => .bl (Wrtibu.isProduct n)
theorem len_is_product_number (h : sp_is_product_number K vs H Q E) : vs.length = 1 := spI1_len h
abbrev NL_is_product_number : List Str := ["k"]
theorem sc_is_product_number : FnScope NL_is_product_number ["k"] (defScope s_is_product_number) := ⟨rfl, rfl, rfl, by decide +kernel, rfl, by decide +kernel, by decide +kernel⟩
def t_is_product_number (K : PySem.W.Frag) : TS := (tRet (tCall (sp_is_within K) [] E0 (tCons (tVar 0) (tCons (tC (.int 0)) (tCons (tC (.int 7)) tNil)))))
theorem w_is_product_number (T : Txt K mg) (cdv : Value) (A : Around) (outer : List Env) (s : Shared) (H : Hp) (E : XK) (hr : Room 1 (A.deeper (envOfC "is_product_number" (defScope s_is_product_number) s.heap.objs.size (He.fAd K ("is_product_number", none)) cdv))) :
    PSs (cxOf CX0 P w K mg base NL_is_product_number "is_product_number" (defScope s_is_product_number) (He.fAd K ("is_product_number", none)) cdv A outer s H E).nox (defBody s_is_product_number) (t_is_product_number K) := by
  exact (pss_one (ps_ret (pe_callG (ok_is_within T) (hr.mono (by decide)) rfl (T.glo 0 rfl) (pa_cons (pv 0) (pa_cons (by exact pe_int) (pa_cons (by exact pe_int) pa_nil))))))
theorem pure_is_product_number (T : Txt K mg) (h : sp_is_product_number K vs H Q E) : t_is_product_number K { nx := fun _ H' => Q .non H', rt := Q } (start NL_is_product_number vs) H := by
  obtain ⟨n, rfl, k⟩ := h
  exact s_ret (ev_I3 (ev_var rfl) ev_c ev_c) k
theorem ok_is_product_number (T : Txt K mg) : Good P w K mg base ("is_product_number", none) 2 ["k"] (sp_is_product_number K) :=
  good_mk (d := d_is_product_number) T 7 rfl rfl rfl sc_is_product_number (fun vs H Q E h => len_is_product_number h) (fun _ _ _ _ _ _ us hl => match us, hl with | [_], _ => rfl) (fun cdv A outer s H E hr => w_is_product_number T cdv A outer s H E hr) (fun vs H Q E h => pure_is_product_number T h)
abbrev sp_is_log (_ : PySem.W.Frag) : Sp := spI3 fun k a l => .bl (Wrtibu.isProduct k && (Wrtibu.isTen a && Wrtibu.isLong l))
theorem len_is_log (h : sp_is_log K vs H Q E) : vs.length = 3 := spI3_len h
abbrev NL_is_log : List Str := ["k", "a", "paid"]
theorem sc_is_log : FnScope NL_is_log ["k", "a", "paid"] (defScope s_is_log) := ⟨rfl, rfl, rfl, by decide +kernel, rfl, by decide +kernel, by decide +kernel⟩
def t_is_log (K : PySem.W.Frag) : TS := (tRet (tAndV (tCall (sp_is_product_number K) [] E0 (tCons (tVar 0) tNil)) (tAndV (tCall (sp_is_ten K) [] E0 (tCons (tVar 1) tNil)) (tCall (sp_is_length K) [] E0 (tCons (tVar 2) tNil)))))
theorem w_is_log (T : Txt K mg) (cdv : Value) (A : Around) (outer : List Env) (s : Shared) (H : Hp) (E : XK) (hr : Room 4 (A.deeper (envOfC "is_log" (defScope s_is_log) s.heap.objs.size (He.fAd K ("is_log", none)) cdv))) :
    PSs (cxOf CX0 P w K mg base NL_is_log "is_log" (defScope s_is_log) (He.fAd K ("is_log", none)) cdv A outer s H E).nox (defBody s_is_log) (t_is_log K) := by
  exact (pss_one (ps_ret (pe_and (pe_callG (ok_is_product_number T) (hr.mono (by decide)) rfl (T.glo 7 rfl) (pa_cons (pv 0) pa_nil)) (pe_and (pe_callG (ok_is_ten T) (hr.mono (by decide)) rfl (T.glo 2 rfl) (pa_cons (pv 1) pa_nil)) (pe_one (pe_callG (ok_is_length T) (hr.mono (by decide)) rfl (T.glo 3 rfl) (pa_cons (pv 2) pa_nil)))))))
theorem pure_is_log (T : Txt K mg) (h : sp_is_log K vs H Q E) : t_is_log K { nx := fun _ H' => Q .non H', rt := Q } (start NL_is_log vs) H := by
  obtain ⟨a, b, c, rfl, k⟩ := h
  exact s_ret (ev_andV (ev_I1 (ev_var rfl)) fun _ => ev_andV (ev_I1 (ev_var rfl)) fun _ => ev_I1 (ev_var rfl)) k
theorem ok_is_log (T : Txt K mg) : Good P w K mg base ("is_log", none) 5 ["k", "a", "paid"] (sp_is_log K) :=
  good_mk (d := d_is_log) T 8 rfl rfl rfl sc_is_log (fun vs H Q E h => len_is_log h) (fun _ _ _ _ _ _ us hl => match us, hl with | [_, _, _], _ => rfl) (fun cdv A outer s H E hr => w_is_log T cdv A outer s H E hr) (fun vs H Q E h => pure_is_log T h)
/-- are_paid_lengths -/
def mPaid (f t s : Int) : Bool := if (!Wrtibu.isTen f || (!Wrtibu.isTen t || !Wrtibu.isLong s)) = true then false else if (decide (f < 100) || decide (t < f)) = true then false else (t - f) % s == 0 && decide ((t - f) / s ≤ 19)
abbrev sp_are_paid_lengths (_ : PySem.W.Frag) : Sp := spI3 fun f t s => .bl (mPaid f t s)
theorem len_are_paid_lengths (h : sp_are_paid_lengths K vs H Q E) : vs.length = 3 := spI3_len h
abbrev NL_are_paid_lengths : List Str := ["first", "last", "step"]
theorem sc_are_paid_lengths : FnScope NL_are_paid_lengths ["first", "last", "step"] (defScope s_are_paid_lengths) := ⟨rfl, rfl, rfl, by decide +kernel, rfl, by decide +kernel, by decide +kernel⟩
def t_are_paid_lengths (K : PySem.W.Frag) : TS := (tSeq (tIfS (tOr (tNot (tB (tCall (sp_is_ten K) [] E0 (tCons (tVar 0) tNil)))) (tOr (tNot (tB (tCall (sp_is_ten K) [] E0 (tCons (tVar 1) tNil)))) (tNot (tB (tCall (sp_is_length K) [] E0 (tCons (tVar 2) tNil)))))) (tRet (tC (.bl false))) tNext)
    (tSeq (tIfS (tOr (tTest (tOp (rI0 fun i j => .bl (decide (i < j))) (tVar 0) (tC (.int 100)))) (tTest (tOp (rI0 fun i j => .bl (decide (i < j))) (tVar 1) (tVar 0)))) (tRet (tC (.bl false))) tNext)
    (tRet (tAndV (tOp rEq (tOp (rI (fun _ j => 0 < j) fun i j => .int (i % j)) (tOp (rI0 fun i j => .int (i - j)) (tVar 1) (tVar 0)) (tVar 2)) (tC (.int 0))) (tOp (rI0 fun i j => .bl (decide (i ≤ j))) (tOp (rI CDiv fun i j => .int (i / j)) (tOp (rI0 fun i j => .int (i - j)) (tVar 1) (tVar 0)) (tVar 2)) (tC (.int 19)))))))
theorem w_are_paid_lengths (T : Txt K mg) (cdv : Value) (A : Around) (outer : List Env) (s : Shared) (H : Hp) (E : XK) (hr : Room 4 (A.deeper (envOfC "are_paid_lengths" (defScope s_are_paid_lengths) s.heap.objs.size (He.fAd K ("are_paid_lengths", none)) cdv))) :
    PSs (cxOf CX0 P w K mg base NL_are_paid_lengths "are_paid_lengths" (defScope s_are_paid_lengths) (He.fAd K ("are_paid_lengths", none)) cdv A outer s H E).nox (defBody s_are_paid_lengths) (t_are_paid_lengths K) := by
  exact (pss_cons (ps_if (PW.pt (pw_or (pt_not (pt_val (pe_callG (ok_is_ten T) (hr.mono (by decide)) rfl (T.glo 2 rfl) (pa_cons (pv 0) pa_nil)))) (pw_or (pt_not (pt_val (pe_callG (ok_is_ten T) (hr.mono (by decide)) rfl (T.glo 2 rfl) (pa_cons (pv 1) pa_nil)))) (pw_or1 (pt_not (pt_val (pe_callG (ok_is_length T) (hr.mono (by decide)) rfl (T.glo 3 rfl) (pa_cons (pv 2) pa_nil)))))))) (pss_one (ps_ret (by exact pe_bl))) pss_nil)
    (pss_cons (ps_if (PW.pt (pw_or (pt_cmpR op_lt (pv 0) (by exact pe_int) (nomark _)) (pw_or1 (pt_cmpR op_lt (pv 1) (pv 0) (nomark _))))) (pss_one (ps_ret (by exact pe_bl))) pss_nil)
    (pss_one (ps_ret (pe_and (pe_cmpR op_eq (pe_op op_mod (pe_op op_sub (pv 1) (pv 0)) (pv 2)) (by exact pe_int) (nomark _)) (pe_one (pe_cmpR op_le (pe_op op_fdiv (pe_op op_sub (pv 1) (pv 0)) (pv 2)) (by exact pe_int) (nomark _))))))))
theorem isLong_bounds {s : Int} (h : Wrtibu.isLong s = true) : 10 ≤ s ∧ s ≤ 2000 ∧ s % 10 = 0 := by
  simp only [Wrtibu.isLong, Wrtibu.isTen, Wrtibu.isHeight, TimBase.within, Bool.and_eq_true, decide_eq_true_eq, beq_iff_eq] at h
  omega
theorem isTen_bounds {s : Int} (h : Wrtibu.isTen s = true) : 0 ≤ s ∧ s ≤ 2000 ∧ s % 10 = 0 := by
  simp only [Wrtibu.isTen, Wrtibu.isHeight, TimBase.within, Bool.and_eq_true, decide_eq_true_eq, beq_iff_eq] at h
  omega
theorem isHeight_bounds {s : Int} (h : Wrtibu.isHeight s = true) : 0 ≤ s ∧ s ≤ 2000 := by
  simp only [Wrtibu.isHeight, TimBase.within, Bool.and_eq_true, decide_eq_true_eq] at h
  omega
theorem pure_are_paid_lengths (T : Txt K mg) (h : sp_are_paid_lengths K vs H Q E) : t_are_paid_lengths K { nx := fun _ H' => Q .non H', rt := Q } (start NL_are_paid_lengths vs) H := by
  obtain ⟨f, t, s, rfl, k⟩ := h
  refine q_when (et_or (et_not (et_B (ev_I1 (ev_var rfl)))) fun _ => et_or (et_not (et_B (ev_I1 (ev_var rfl)))) fun _ => et_not (et_B (ev_I1 (ev_var rfl)))) (fun hb H1 e1 => s_ret ev_c fun H2 e2 => ?_) (fun hb H1 e1 => ?_)
  · have z : mPaid f t s = false := if_pos hb
    rw [← z]
    exact k H2 (e1.trans e2)
  · refine q_when (et_or (et_test (ev_lt (ev_var rfl) ev_c)) fun _ => et_test (ev_lt (ev_var rfl) (ev_var rfl))) (fun hc H2 e2 => s_ret ev_c fun H3 e3 => ?_) (fun hc H2 e2 => ?_)
    · have z : mPaid f t s = false := by
        unfold mPaid
        rw [if_neg (by rw [hb]; decide), if_pos hc]
      rw [← z]
      exact k H3 ((e1.trans e2).trans e3)
    · have hs : Wrtibu.isLong s = true := by
        cases q : Wrtibu.isLong s with
        | true => rfl
        | false =>
          rw [q] at hb
          simp at hb
      have bs := isLong_bounds hs
      have z : mPaid f t s = ((t - f) % s == 0 && decide ((t - f) / s ≤ 19)) := by
        unfold mPaid
        rw [if_neg (by rw [hb]; decide), if_neg (by rw [hc]; decide)]
      refine s_ret (ev_bl (ev_andV (ev_eqi (ev_mod (ev_sub (ev_var rfl) (ev_var rfl)) (ev_var rfl) (by omega)) ev_c) fun _ => ev_le (ev_div (ev_sub (ev_var rfl) (ev_var rfl)) (ev_var rfl) (by omega)) ev_c) z.symm) fun H3 e3 => k H3 ((e1.trans e2).trans e3)
theorem ok_are_paid_lengths (T : Txt K mg) : Good P w K mg base ("are_paid_lengths", none) 5 ["first", "last", "step"] (sp_are_paid_lengths K) :=
  good_mk (d := d_are_paid_lengths) T 9 rfl rfl rfl sc_are_paid_lengths (fun vs H Q E h => len_are_paid_lengths h) (fun _ _ _ _ _ _ us hl => match us, hl with | [_, _, _], _ => rfl) (fun cdv A outer s H E hr => w_are_paid_lengths T cdv A outer s H E hr) (fun vs H Q E h => pure_are_paid_lengths T h)
/-- are_terms -/
def mTerms : List Int → Bool
  | [g, f, t, s, u, v, o] => TimBase.within 0 9 g && (mPaid f t s && (Wrtibu.isHeight u && (Wrtibu.isHeight v && (Wrtibu.isTen o && decide (o ≤ 90)))))
  | _ => false
abbrev sp_are_terms (K : PySem.W.Frag) : Sp := spL1 K (fun ns => ns.length = 7) fun ns => .bl (mTerms ns)
theorem len_are_terms (h : sp_are_terms K vs H Q E) : vs.length = 1 := spL1_len h
abbrev NL_are_terms : List Str := ["terms", "grade", "first", "last", "step", "least_top", "greatest_butt", "over"]
theorem sc_are_terms : FnScope NL_are_terms ["terms"] (defScope s_are_terms) := ⟨rfl, rfl, rfl, by decide +kernel, rfl, by decide +kernel, by decide +kernel⟩
def t_are_terms (K : PySem.W.Frag) : TS := (tSeq (tAsg (tVar 0) (gUnl K 7 (gCons (gName 1) (gCons (gName 2) (gCons (gName 3) (gCons (gName 4) (gCons (gName 5) (gCons (gName 6) (gCons (gName 7) gNil)))))))))
    (tRet (tAndV (tCall (sp_is_grade K) [] E0 (tCons (tVar 1) tNil)) (tAndV (tCall (sp_are_paid_lengths K) [] E0 (tCons (tVar 2) (tCons (tVar 3) (tCons (tVar 4) tNil)))) (tAndV (tCall (sp_is_diameter K) [] E0 (tCons (tVar 5) tNil)) (tAndV (tCall (sp_is_diameter K) [] E0 (tCons (tVar 6) tNil)) (tAndV (tCall (sp_is_ten K) [] E0 (tCons (tVar 7) tNil)) (tOp (rI0 fun i j => .bl (decide (i ≤ j))) (tVar 7) (tC (.int 90))))))))))
theorem w_are_terms (T : Txt K mg) (cdv : Value) (A : Around) (outer : List Env) (s : Shared) (H : Hp) (E : XK) (hr : Room 5 (A.deeper (envOfC "are_terms" (defScope s_are_terms) s.heap.objs.size (He.fAd K ("are_terms", none)) cdv))) :
    PSs (cxOf CX0 P w K mg base NL_are_terms "are_terms" (defScope s_are_terms) (He.fAd K ("are_terms", none)) cdv A outer s H E).nox (defBody s_are_terms) (t_are_terms K) := by
  exact (pss_cons (ps_asg (pv 0) (pg_unl rfl (pgs_cons (pg_name (i := 1) sc_are_terms.nd rfl (.inl rfl)) (pgs_cons (pg_name (i := 2) sc_are_terms.nd rfl (.inl rfl)) (pgs_cons (pg_name (i := 3) sc_are_terms.nd rfl (.inl rfl)) (pgs_cons (pg_name (i := 4) sc_are_terms.nd rfl (.inl rfl)) (pgs_cons (pg_name (i := 5) sc_are_terms.nd rfl (.inl rfl)) (pgs_cons (pg_name (i := 6) sc_are_terms.nd rfl (.inl rfl)) (pgs_cons (pg_name (i := 7) sc_are_terms.nd rfl (.inl rfl)) pgs_nil)))))))))
    (pss_one (ps_ret (pe_and (pe_callG (ok_is_grade T) (hr.mono (by decide)) rfl (T.glo 5 rfl) (pa_cons (pv 1) pa_nil)) (pe_and (pe_callG (ok_are_paid_lengths T) (hr.mono (by decide)) rfl (T.glo 9 rfl) (pa_cons (pv 2) (pa_cons (pv 3) (pa_cons (pv 4) pa_nil)))) (pe_and (pe_callG (ok_is_diameter T) (hr.mono (by decide)) rfl (T.glo 6 rfl) (pa_cons (pv 5) pa_nil)) (pe_and (pe_callG (ok_is_diameter T) (hr.mono (by decide)) rfl (T.glo 6 rfl) (pa_cons (pv 6) pa_nil)) (pe_and (pe_callG (ok_is_ten T) (hr.mono (by decide)) rfl (T.glo 2 rfl) (pa_cons (pv 7) pa_nil)) (pe_one (pe_cmpR op_le (pv 7) (by exact pe_int) (nomark _)))))))))))
theorem seven {ns : List Int} (h : ns.length = 7) : ∃ g f t s u v o, ns = [g, f, t, s, u, v, o] := by
  match ns, h with
  | [g, f, t, s, u, v, o], _ => exact ⟨g, f, t, s, u, v, o, rfl⟩
theorem pure_are_terms (T : Txt K mg) (h : sp_are_terms K vs H Q E) : t_are_terms K { nx := fun _ H' => Q .non H', rt := Q } (start NL_are_terms vs) H := by
  obtain ⟨a, ns, rfl, hs, ⟨hl, h7⟩, k⟩ := h
  obtain ⟨g, f, t, s, u, v, o, rfl⟩ := seven h7
  refine q_unL (σ' := [some (.ref a), some (.int g), some (.int f), some (.int t), some (.int s), some (.int u), some (.int v), some (.int o)]) (ev_var rfl) hs rfl (fun H' Q q => ⟨_, _, rfl, _, _, rfl, _, _, rfl, _, _, rfl, _, _, rfl, _, _, rfl, _, _, rfl, rfl, q⟩) fun H1 e1 => ?_
  exact s_ret (ev_andV (ev_I1 (ev_var rfl)) fun _ => ev_andV (ev_I3 (ev_var rfl) (ev_var rfl) (ev_var rfl)) fun _ => ev_andV (ev_I1 (ev_var rfl)) fun _ => ev_andV (ev_I1 (ev_var rfl)) fun _ => ev_andV (ev_I1 (ev_var rfl)) fun _ => ev_le (ev_var rfl) ev_c) fun H2 e2 => k H2 (e1.trans e2)
theorem ok_are_terms (T : Txt K mg) : Good P w K mg base ("are_terms", none) 6 ["terms"] (sp_are_terms K) :=
  good_mk (d := d_are_terms) T 10 rfl rfl rfl sc_are_terms (fun vs H Q E h => len_are_terms h) (fun _ _ _ _ _ _ us hl => match us, hl with | [_], _ => rfl) (fun cdv A outer s H E hr => w_are_terms T cdv A outer s H E hr) (fun vs H Q E h => pure_are_terms T h)
abbrev sp_is_rising (K : PySem.W.Frag) : Sp := spL1 K (fun _ => True) fun ns => .bl (chain (fun a b => decide (a < b)) ns)
theorem len_is_rising (h : sp_is_rising K vs H Q E) : vs.length = 1 := spL1_len h
abbrev NL_is_rising : List Str := ["numbers", "at"]
theorem sc_is_rising : FnScope NL_is_rising ["numbers"] (defScope s_is_rising) := ⟨rfl, rfl, rfl, by decide +kernel, rfl, by decide +kernel, by decide +kernel⟩
def t_is_rising (K : PySem.W.Frag) : TS := (tSeq (tFor (iRng2 (tCons (tC (.int 1)) (tCons (tCB (rLenS K) (tCons (tVar 0) tNil)) tNil))) (gName 1) (tIfS (tTest (tOp (rI0 fun i j => .bl (decide (i ≤ j))) (tOp (rIxL K) (tVar 0) (tVar 1)) (tOp (rIxL K) (tVar 0) (tOp (rI0 fun i j => .int (i - j)) (tVar 1) (tC (.int 1)))))) (tRet (tC (.bl false))) tNext))
    (tRet (tC (.bl true))))
theorem w_is_rising (T : Txt K mg) (cdv : Value) (A : Around) (outer : List Env) (s : Shared) (H : Hp) (E : XK) (hr : Room 0 (A.deeper (envOfC "is_rising" (defScope s_is_rising) s.heap.objs.size (He.fAd K ("is_rising", none)) cdv))) :
    PSs (cxOf CX0 P w K mg base NL_is_rising "is_rising" (defScope s_is_rising) (He.fAd K ("is_rising", none)) cdv A outer s H E).nox (defBody s_is_rising) (t_is_rising K) := by
  exact (pss_cons (ps_for PassesOwn.never rfl (pi_range2 rfl (T.free 79 rfl) (pa_cons (by exact pe_int) (pa_cons (pe_callB call_len_seq rfl (T.free 78 rfl) (by decide +kernel) (pa_cons (pv 0) pa_nil)) pa_nil))) (pg_name (i := 1) sc_is_rising.nd rfl (.inl rfl)) (pss_one (ps_if (pt_cmpR op_le (pe_ix ix_list (pv 0) (pv 1) (fun _ _ => rfl)) (pe_ix ix_list (pv 0) (pe_op op_sub (pv 1) (by exact pe_int)) (fun _ _ => rfl)) (nomark _)) (pss_one (ps_ret (by exact pe_bl))) pss_nil)))
    (pss_one (ps_ret (by exact pe_bl))))
theorem pure_is_rising (T : Txt K mg) (h : sp_is_rising K vs H Q E) : t_is_rising K { nx := fun _ H' => Q .non H', rt := Q } (start NL_is_rising vs) H := by
  obtain ⟨a, ns, rfl, hs, ⟨hl, _⟩, k⟩ := h
  refine chain_loop hs hl (fun i x y H' e hx hy => ?_) k
  refine et_is (et_test (ev_le (ev_ixL (ev_var rfl) (ev_var rfl) (ex_l e hs) (at_int (n := i + 1) (by omega) hy)) (ev_ixL (ev_var rfl) (ev_sub (ev_var rfl) ev_c) (ex_l e hs) (at_int (n := i) (by omega) hx)))) ?_
  show decide (y ≤ x) = !decide (x < y)
  by_cases c : x < y
  · rw [decide_eq_true c, decide_eq_false (by omega)]
    rfl
  · rw [decide_eq_false c, decide_eq_true (by omega)]
    rfl
theorem ok_is_rising (T : Txt K mg) : Good P w K mg base ("is_rising", none) 1 ["numbers"] (sp_is_rising K) :=
  good_mk (d := d_is_rising) T 11 rfl rfl rfl sc_is_rising (fun vs H Q E h => len_is_rising h) (fun _ _ _ _ _ _ us hl => match us, hl with | [_], _ => rfl) (fun cdv A outer s H E hr => w_is_rising T cdv A outer s H E hr) (fun vs H Q E h => pure_is_rising T h)
abbrev sp_never_rises (K : PySem.W.Frag) : Sp := spL1 K (fun _ => True) fun ns => .bl (chain (fun a b => decide (b ≤ a)) ns)
theorem len_never_rises (h : sp_never_rises K vs H Q E) : vs.length = 1 := spL1_len h
abbrev NL_never_rises : List Str := ["numbers", "at"]
theorem sc_never_rises : FnScope NL_never_rises ["numbers"] (defScope s_never_rises) := ⟨rfl, rfl, rfl, by decide +kernel, rfl, by decide +kernel, by decide +kernel⟩
def t_never_rises (K : PySem.W.Frag) : TS := (tSeq (tFor (iRng2 (tCons (tC (.int 1)) (tCons (tCB (rLenS K) (tCons (tVar 0) tNil)) tNil))) (gName 1) (tIfS (tTest (tOp (rI0 fun i j => .bl (decide (j < i))) (tOp (rIxL K) (tVar 0) (tVar 1)) (tOp (rIxL K) (tVar 0) (tOp (rI0 fun i j => .int (i - j)) (tVar 1) (tC (.int 1)))))) (tRet (tC (.bl false))) tNext))
    (tRet (tC (.bl true))))
theorem w_never_rises (T : Txt K mg) (cdv : Value) (A : Around) (outer : List Env) (s : Shared) (H : Hp) (E : XK) (hr : Room 0 (A.deeper (envOfC "never_rises" (defScope s_never_rises) s.heap.objs.size (He.fAd K ("never_rises", none)) cdv))) :
    PSs (cxOf CX0 P w K mg base NL_never_rises "never_rises" (defScope s_never_rises) (He.fAd K ("never_rises", none)) cdv A outer s H E).nox (defBody s_never_rises) (t_never_rises K) := by
  exact (pss_cons (ps_for PassesOwn.never rfl (pi_range2 rfl (T.free 79 rfl) (pa_cons (by exact pe_int) (pa_cons (pe_callB call_len_seq rfl (T.free 78 rfl) (by decide +kernel) (pa_cons (pv 0) pa_nil)) pa_nil))) (pg_name (i := 1) sc_never_rises.nd rfl (.inl rfl)) (pss_one (ps_if (pt_cmpR op_gt (pe_ix ix_list (pv 0) (pv 1) (fun _ _ => rfl)) (pe_ix ix_list (pv 0) (pe_op op_sub (pv 1) (by exact pe_int)) (fun _ _ => rfl)) (nomark _)) (pss_one (ps_ret (by exact pe_bl))) pss_nil)))
    (pss_one (ps_ret (by exact pe_bl))))
theorem pure_never_rises (T : Txt K mg) (h : sp_never_rises K vs H Q E) : t_never_rises K { nx := fun _ H' => Q .non H', rt := Q } (start NL_never_rises vs) H := by
  obtain ⟨a, ns, rfl, hs, ⟨hl, _⟩, k⟩ := h
  refine chain_loop hs hl (fun i x y H' e hx hy => ?_) k
  refine et_is (et_test (ev_gt (ev_ixL (ev_var rfl) (ev_var rfl) (ex_l e hs) (at_int (n := i + 1) (by omega) hy)) (ev_ixL (ev_var rfl) (ev_sub (ev_var rfl) ev_c) (ex_l e hs) (at_int (n := i) (by omega) hx)))) ?_
  show decide (x < y) = !decide (y ≤ x)
  by_cases c : y ≤ x
  · rw [decide_eq_true c, decide_eq_false (by omega)]
    rfl
  · rw [decide_eq_false c, decide_eq_true (by omega)]
    rfl
theorem ok_never_rises (T : Txt K mg) : Good P w K mg base ("never_rises", none) 1 ["numbers"] (sp_never_rises K) :=
  good_mk (d := d_never_rises) T 12 rfl rfl rfl sc_never_rises (fun vs H Q E h => len_never_rises h) (fun _ _ _ _ _ _ us hl => match us, hl with | [_], _ => rfl) (fun cdv A outer s H E hr => w_never_rises T cdv A outer s H E hr) (fun vs H Q E h => pure_never_rises T h)
end
end Sb
end
section
set_option maxHeartbeats 4000000
namespace Sb
open PySem PySem.Spec PySem.Calls PyProof.Rows L2 Evl
section
variable {P : Program} {w : World} {K : PySem.W.Frag} {mg : Str → Option Value} {base : Heap} {vs : List V} {H : Hp} {Q : VK} {E : XK}
/-- the row's length by two, tested -/
def oddOr (least most : Int) (ns : List Int) : Bool := (!((ns.length : Int) % 2 == 0)) || !TimBase.within least most ((ns.length : Int) / 2)
abbrev lt2 (a b : Int) : Bool := decide (a < b)
abbrev ge2 (a b : Int) : Bool := decide (b ≤ a)
abbrev evs (ns : List Int) : List Int := evens (ns.drop 0)
abbrev ods (ns : List Int) : List Int := evens (ns.drop 1)
def mPoints (ns : List Int) : Bool := if oddOr 2 20 ns = true then false else (evs ns).headD 1 == 0 && ((evs ns).all Wrtibu.isTen && (chain lt2 (evs ns) && ((ods ns).all Wrtibu.isHeight && chain ge2 (ods ns))))
abbrev sp_are_points (K : PySem.W.Frag) : Sp := spL1 K (fun _ => True) fun ns => .bl (mPoints ns)
theorem len_are_points (h : sp_are_points K vs H Q E) : vs.length = 1 := spL1_len h
abbrev NL_are_points : List Str := ["row", "heights", "diameters", "height", "diameter"]
theorem sc_are_points : FnScope NL_are_points ["row"] (defScope s_are_points) := ⟨rfl, rfl, rfl, by decide +kernel, rfl, by decide +kernel, by decide +kernel⟩
def t_are_points (K : PySem.W.Frag) : TS := (tSeq (tIfS (tOr (tTest (tOp rNe (tOp (rI (fun _ j => 0 < j) fun i j => .int (i % j)) (tCB (rLenS K) (tCons (tVar 0) tNil)) (tC (.int 2))) (tC (.int 0)))) (tNot (tB (tCall (sp_is_within K) [] E0 (tCons (tOp (rI CDiv fun i j => .int (i / j)) (tCB (rLenS K) (tCons (tVar 0) tNil)) (tC (.int 2))) (tCons (tC (.int 2)) (tCons (tC (.int 20)) tNil))))))) (tRet (tC (.bl false))) tNext)
    (tSeq (tAsg (tSl2 K 0 (tVar 0)) (gName 1))
    (tSeq (tAsg (tSl2 K 1 (tVar 0)) (gName 2))
    (tRet (tAndV (tOp rEq (tOp (rIxL K) (tVar 1) (tC (.int 0))) (tC (.int 0))) (tAndV (tCB (rAll K) (tCons (tLc (iList K (tVar 1)) (gName 3) tYes (tCall (sp_is_ten K) [] E0 (tCons (tVar 3) tNil)) [3]) tNil)) (tAndV (tCall (sp_is_rising K) [] E0 (tCons (tVar 1) tNil)) (tAndV (tCB (rAll K) (tCons (tLc (iList K (tVar 2)) (gName 4) tYes (tCall (sp_is_diameter K) [] E0 (tCons (tVar 4) tNil)) [4]) tNil)) (tCall (sp_never_rises K) [] E0 (tCons (tVar 2) tNil))))))))))
theorem w_are_points (T : Txt K mg) (cdv : Value) (A : Around) (outer : List Env) (s : Shared) (H : Hp) (E : XK) (hr : Room 3 (A.deeper (envOfC "are_points" (defScope s_are_points) s.heap.objs.size (He.fAd K ("are_points", none)) cdv))) :
    PSs (cxOf CX0 P w K mg base NL_are_points "are_points" (defScope s_are_points) (He.fAd K ("are_points", none)) cdv A outer s H E).nox (defBody s_are_points) (t_are_points K) := by
  exact (pss_cons (ps_if (PW.pt (pw_or (pt_cmpR op_ne (pe_op op_mod (pe_callB call_len_seq rfl (T.free 78 rfl) (by decide +kernel) (pa_cons (pv 0) pa_nil)) (by exact pe_int)) (by exact pe_int) (nomark _)) (pw_or1 (pt_not (pt_val (pe_callG (ok_is_within T) (hr.mono (by decide)) rfl (T.glo 0 rfl) (pa_cons (pe_op op_fdiv (pe_callB call_len_seq rfl (T.free 78 rfl) (by decide +kernel) (pa_cons (pv 0) pa_nil)) (by exact pe_int)) (pa_cons (by exact pe_int) (pa_cons (by exact pe_int) pa_nil))))))))) (pss_one (ps_ret (by exact pe_bl))) pss_nil)
    (pss_cons (ps_set (i := 1) sc_are_points.nd rfl (.inl rfl) (pe_slice2 0 (by decide) (pv 0)))
    (pss_cons (ps_set (i := 2) sc_are_points.nd rfl (.inl rfl) (pe_slice2 1 (by decide) (pv 0)))
    (pss_one (ps_ret (pe_and (pe_cmpR op_eq (pe_ix ix_list (pv 1) (by exact pe_int) (fun _ _ => rfl)) (by exact pe_int) (nomark _)) (pe_and (pe_callB (cr_all rfl) rfl (T.free 83 rfl) (by decide +kernel) (pa_cons (pe_lc (own := [("height", 3)]) (g := gName 3) (tt := tYes) rfl sc_are_points.nd (pi_list (pv 1)) (blkOk_by (own := [("height", 3)]) (N := NL_are_points) (sc := (defScope s_are_points)) (by decide +kernel)) (fun _ _ _ _ _ => pg_name (i := 3) sc_are_points.nd rfl (.inl rfl)) (fun _ _ _ _ _ => pts_nil) (fun _ _ _ _ _ => (pe_callG (ok_is_ten T) (hr.mono (by decide)) rfl (T.glo 2 rfl) (pa_cons (pv 3) pa_nil)))) pa_nil)) (pe_and (pe_callG (ok_is_rising T) (hr.mono (by decide)) rfl (T.glo 11 rfl) (pa_cons (pv 1) pa_nil)) (pe_and (pe_callB (cr_all rfl) rfl (T.free 83 rfl) (by decide +kernel) (pa_cons (pe_lc (own := [("diameter", 4)]) (g := gName 4) (tt := tYes) rfl sc_are_points.nd (pi_list (pv 2)) (blkOk_by (own := [("diameter", 4)]) (N := NL_are_points) (sc := (defScope s_are_points)) (by decide +kernel)) (fun _ _ _ _ _ => pg_name (i := 4) sc_are_points.nd rfl (.inl rfl)) (fun _ _ _ _ _ => pts_nil) (fun _ _ _ _ _ => (pe_callG (ok_is_diameter T) (hr.mono (by decide)) rfl (T.glo 6 rfl) (pa_cons (pv 4) pa_nil)))) pa_nil)) (pe_one (pe_callG (ok_never_rises T) (hr.mono (by decide)) rfl (T.glo 12 rfl) (pa_cons (pv 2) pa_nil))))))))))))
theorem evens_le {ns : List Int} {n : Nat} (h : ns.length ≤ 1000) : (evens (ns.drop n)).length ≤ 1000 := by
  rw [evens_len, List.length_drop]
  omega
theorem el_sl2i {σ : L2.St} {te : TE} {a : Addr} {ns : List Int} {n : Nat} (h : Ev te σ H (.ref a)) (hs : SqL K H a (ns.map V.int)) : EvL (tSl2 K n te) σ H ((evens (ns.drop n)).map V.int) := by
  have z := el_sl2 (n := n) h hs
  rw [← List.map_drop, evens_map] at z
  exact z
theorem pure_are_points (T : Txt K mg) (h : sp_are_points K vs H Q E) : t_are_points K { nx := fun _ H' => Q .non H', rt := Q } (start NL_are_points vs) H := by
  obtain ⟨a, ns, rfl, hs, ⟨hl, _⟩, k⟩ := h
  refine q_when (et_or (et_test (ev_nei (ev_mod (ev_lenI (ev_var rfl) hs) ev_c (by decide)) ev_c)) fun _ => et_not (et_B (ev_I3 (ev_div (ev_lenI (ev_var rfl) hs) ev_c (by decide)) ev_c ev_c))) (fun hb H1 e1 => s_ret ev_c fun H2 e2 => ?_) (fun hb H1 e1 => ?_)
  · have z : mPoints ns = false := if_pos hb
    rw [← z]
    exact k H2 (e1.trans e2)
  · have z : mPoints ns = ((evs ns).headD 1 == 0 && ((evs ns).all Wrtibu.isTen && (chain lt2 (evs ns) && ((ods ns).all Wrtibu.isHeight && chain ge2 (ods ns))))) := by
      unfold mPoints
      rw [if_neg (by unfold oddOr; rw [hb]; decide)]
    have hs1 := ex_l e1 hs
    refine q_asgL (el_sl2i (ev_var rfl) hs1) fun p H2 hp e2 h2 => ?_
    have hs2 := ex_l e2 hs1
    refine q_asgL (el_sl2i (ev_var rfl) hs2) fun q H3 hq e3 h3 => ?_
    have sp : SqL K H3 p ((evs ns).map V.int) := sq_of (e3 _ _ h2)
    have sq : SqL K H3 q ((ods ns).map V.int) := sq_of h3
    have l1 : (evs ns).length ≤ 1000 := evens_le hl
    have l2 : (ods ns).length ≤ 1000 := evens_le hl
    obtain ⟨x, hx⟩ : ∃ x, (evs ns)[0]? = some x := by
      have : 0 < (evs ns).length := by
        show 0 < (evens (ns.drop 0)).length
        rw [evens_len, List.drop_zero]
        simp only [TimBase.within, Bool.or_eq_false_iff, Bool.not_eq_false', Bool.and_eq_true, decide_eq_true_eq] at hb
        omega
      exact ⟨_, List.getElem?_eq_getElem this⟩
    have hd : (evs ns).headD 1 = x := by
      rw [List.headD_eq_head?_getD, List.head?_eq_getElem?, hx]
      rfl
    refine s_ret (ev_bl (ev_andV (ev_eqi (ev_ixL (ev_var rfl) ev_c sp (at_int (n := 0) rfl hx)) ev_c) fun _ => ev_andV (ev_allMapE Wrtibu.isTen (ev_var rfl) sp l1 (fun _ => rfl) fun n _ => ev_I1 (ev_var rfl)) fun _ =>
      ev_andV (ev_L1 (ev_var rfl) sp l1 trivial) fun _ => ev_andV (ev_allMapE Wrtibu.isHeight (ev_var rfl) sq l2 (fun _ => rfl) fun n _ => ev_I1 (ev_var rfl)) fun _ => ev_L1 (ev_var rfl) sq l2 trivial) ?_) fun H4 e4 => k H4 (((e1.trans e2).trans e3).trans e4)
    rw [z, hd]
theorem ok_are_points (T : Txt K mg) : Good P w K mg base ("are_points", none) 4 ["row"] (sp_are_points K) :=
  good_mk (d := d_are_points) T 13 rfl rfl rfl sc_are_points (fun vs H Q E h => len_are_points h) (fun _ _ _ _ _ _ us hl => match us, hl with | [_], _ => rfl) (fun cdv A outer s H E hr => w_are_points T cdv A outer s H E hr) (fun vs H Q E h => pure_are_points T h)
def mPrices (ns : List Int) : Bool := if oddOr 1 10 ns = true then false else (evs ns).all Wrtibu.isHeight && (chain lt2 (evs ns) && (ods ns).all (TimBase.within 0 10000000))
abbrev sp_are_price_rows (K : PySem.W.Frag) : Sp := spL1 K (fun _ => True) fun ns => .bl (mPrices ns)
theorem len_are_price_rows (h : sp_are_price_rows K vs H Q E) : vs.length = 1 := spL1_len h
abbrev NL_are_price_rows : List Str := ["row", "diameters", "prices", "diameter", "price"]
theorem sc_are_price_rows : FnScope NL_are_price_rows ["row"] (defScope s_are_price_rows) := ⟨rfl, rfl, rfl, by decide +kernel, rfl, by decide +kernel, by decide +kernel⟩
def t_are_price_rows (K : PySem.W.Frag) : TS := (tSeq (tIfS (tOr (tTest (tOp rNe (tOp (rI (fun _ j => 0 < j) fun i j => .int (i % j)) (tCB (rLenS K) (tCons (tVar 0) tNil)) (tC (.int 2))) (tC (.int 0)))) (tNot (tB (tCall (sp_is_within K) [] E0 (tCons (tOp (rI CDiv fun i j => .int (i / j)) (tCB (rLenS K) (tCons (tVar 0) tNil)) (tC (.int 2))) (tCons (tC (.int 1)) (tCons (tC (.int 10)) tNil))))))) (tRet (tC (.bl false))) tNext)
    (tSeq (tAsg (tSl2 K 0 (tVar 0)) (gName 1))
    (tSeq (tAsg (tSl2 K 1 (tVar 0)) (gName 2))
    (tRet (tAndV (tCB (rAll K) (tCons (tLc (iList K (tVar 1)) (gName 3) tYes (tCall (sp_is_diameter K) [] E0 (tCons (tVar 3) tNil)) [3]) tNil)) (tAndV (tCall (sp_is_rising K) [] E0 (tCons (tVar 1) tNil)) (tCB (rAll K) (tCons (tLc (iList K (tVar 2)) (gName 4) tYes (tCall (sp_is_within K) [] E0 (tCons (tVar 4) (tCons (tC (.int 0)) (tCons (tC (.int (10000000))) tNil)))) [4]) tNil))))))))
theorem w_are_price_rows (T : Txt K mg) (cdv : Value) (A : Around) (outer : List Env) (s : Shared) (H : Hp) (E : XK) (hr : Room 2 (A.deeper (envOfC "are_price_rows" (defScope s_are_price_rows) s.heap.objs.size (He.fAd K ("are_price_rows", none)) cdv))) :
    PSs (cxOf CX0 P w K mg base NL_are_price_rows "are_price_rows" (defScope s_are_price_rows) (He.fAd K ("are_price_rows", none)) cdv A outer s H E).nox (defBody s_are_price_rows) (t_are_price_rows K) := by
  exact (pss_cons (ps_if (PW.pt (pw_or (pt_cmpR op_ne (pe_op op_mod (pe_callB call_len_seq rfl (T.free 78 rfl) (by decide +kernel) (pa_cons (pv 0) pa_nil)) (by exact pe_int)) (by exact pe_int) (nomark _)) (pw_or1 (pt_not (pt_val (pe_callG (ok_is_within T) (hr.mono (by decide)) rfl (T.glo 0 rfl) (pa_cons (pe_op op_fdiv (pe_callB call_len_seq rfl (T.free 78 rfl) (by decide +kernel) (pa_cons (pv 0) pa_nil)) (by exact pe_int)) (pa_cons (by exact pe_int) (pa_cons (by exact pe_int) pa_nil))))))))) (pss_one (ps_ret (by exact pe_bl))) pss_nil)
    (pss_cons (ps_set (i := 1) sc_are_price_rows.nd rfl (.inl rfl) (pe_slice2 0 (by decide) (pv 0)))
    (pss_cons (ps_set (i := 2) sc_are_price_rows.nd rfl (.inl rfl) (pe_slice2 1 (by decide) (pv 0)))
    (pss_one (ps_ret (pe_and (pe_callB (cr_all rfl) rfl (T.free 83 rfl) (by decide +kernel) (pa_cons (pe_lc (own := [("diameter", 3)]) (g := gName 3) (tt := tYes) rfl sc_are_price_rows.nd (pi_list (pv 1)) (blkOk_by (own := [("diameter", 3)]) (N := NL_are_price_rows) (sc := (defScope s_are_price_rows)) (by decide +kernel)) (fun _ _ _ _ _ => pg_name (i := 3) sc_are_price_rows.nd rfl (.inl rfl)) (fun _ _ _ _ _ => pts_nil) (fun _ _ _ _ _ => (pe_callG (ok_is_diameter T) (hr.mono (by decide)) rfl (T.glo 6 rfl) (pa_cons (pv 3) pa_nil)))) pa_nil)) (pe_and (pe_callG (ok_is_rising T) (hr.mono (by decide)) rfl (T.glo 11 rfl) (pa_cons (pv 1) pa_nil)) (pe_one (pe_callB (cr_all rfl) rfl (T.free 83 rfl) (by decide +kernel) (pa_cons (pe_lc (own := [("price", 4)]) (g := gName 4) (tt := tYes) rfl sc_are_price_rows.nd (pi_list (pv 2)) (blkOk_by (own := [("price", 4)]) (N := NL_are_price_rows) (sc := (defScope s_are_price_rows)) (by decide +kernel)) (fun _ _ _ _ _ => pg_name (i := 4) sc_are_price_rows.nd rfl (.inl rfl)) (fun _ _ _ _ _ => pts_nil) (fun _ _ _ _ _ => (pe_callG (ok_is_within T) (hr.mono (by decide)) rfl (T.glo 0 rfl) (pa_cons (pv 4) (pa_cons (by exact pe_int) (pa_cons (pe_gi rfl (T.int 94 rfl)) pa_nil)))))) pa_nil))))))))))
theorem pure_are_price_rows (T : Txt K mg) (h : sp_are_price_rows K vs H Q E) : t_are_price_rows K { nx := fun _ H' => Q .non H', rt := Q } (start NL_are_price_rows vs) H := by
  obtain ⟨a, ns, rfl, hs, ⟨hl, _⟩, k⟩ := h
  refine q_when (et_or (et_test (ev_nei (ev_mod (ev_lenI (ev_var rfl) hs) ev_c (by decide)) ev_c)) fun _ => et_not (et_B (ev_I3 (ev_div (ev_lenI (ev_var rfl) hs) ev_c (by decide)) ev_c ev_c))) (fun hb H1 e1 => s_ret ev_c fun H2 e2 => ?_) (fun hb H1 e1 => ?_)
  · have z : mPrices ns = false := if_pos hb
    rw [← z]
    exact k H2 (e1.trans e2)
  · have z : mPrices ns = ((evs ns).all Wrtibu.isHeight && (chain lt2 (evs ns) && (ods ns).all (TimBase.within 0 10000000))) := by
      unfold mPrices
      rw [if_neg (by unfold oddOr; rw [hb]; decide)]
    have hs1 := ex_l e1 hs
    refine q_asgL (el_sl2i (ev_var rfl) hs1) fun p H2 hp e2 h2 => ?_
    have hs2 := ex_l e2 hs1
    refine q_asgL (el_sl2i (ev_var rfl) hs2) fun q H3 hq e3 h3 => ?_
    have sp : SqL K H3 p ((evs ns).map V.int) := sq_of (e3 _ _ h2)
    have sq : SqL K H3 q ((ods ns).map V.int) := sq_of h3
    have l1 : (evs ns).length ≤ 1000 := evens_le hl
    have l2 : (ods ns).length ≤ 1000 := evens_le hl
    refine s_ret (ev_bl (ev_andV (ev_allMapE Wrtibu.isHeight (ev_var rfl) sp l1 (fun _ => rfl) fun n _ => ev_I1 (ev_var rfl)) fun _ =>
      ev_andV (ev_L1 (ev_var rfl) sp l1 trivial) fun _ => ev_allMapE (TimBase.within 0 10000000) (ev_var rfl) sq l2 (fun _ => rfl) fun n _ => ev_I3 (ev_var rfl) ev_c ev_c) ?_) fun H4 e4 => k H4 (((e1.trans e2).trans e3).trans e4)
    rw [z]
theorem ok_are_price_rows (T : Txt K mg) : Good P w K mg base ("are_price_rows", none) 3 ["row"] (sp_are_price_rows K) :=
  good_mk (d := d_are_price_rows) T 14 rfl rfl rfl sc_are_price_rows (fun vs H Q E h => len_are_price_rows h) (fun _ _ _ _ _ _ us hl => match us, hl with | [_], _ => rfl) (fun cdv A outer s H E hr => w_are_price_rows T cdv A outer s H E hr) (fun vs H Q E h => pure_are_price_rows T h)
def mPieces (ns : List Int) : Bool := if ((!((ns.length : Int) % 2 == 0)) || decide (200 < (ns.length : Int) / 2)) = true then false else (evs ns).all (TimBase.within (-1) 7) && (ods ns).all Wrtibu.isLong
abbrev sp_are_pieces (K : PySem.W.Frag) : Sp := spL1 K (fun _ => True) fun ns => .bl (mPieces ns)
theorem len_are_pieces (h : sp_are_pieces K vs H Q E) : vs.length = 1 := spL1_len h
abbrev NL_are_pieces : List Str := ["row", "k", "length"]
theorem sc_are_pieces : FnScope NL_are_pieces ["row"] (defScope s_are_pieces) := ⟨rfl, rfl, rfl, by decide +kernel, rfl, by decide +kernel, by decide +kernel⟩
def t_are_pieces (K : PySem.W.Frag) : TS := (tSeq (tIfS (tOr (tTest (tOp rNe (tOp (rI (fun _ j => 0 < j) fun i j => .int (i % j)) (tCB (rLenS K) (tCons (tVar 0) tNil)) (tC (.int 2))) (tC (.int 0)))) (tTest (tOp (rI0 fun i j => .bl (decide (j < i))) (tOp (rI CDiv fun i j => .int (i / j)) (tCB (rLenS K) (tCons (tVar 0) tNil)) (tC (.int 2))) (tC (.int 200))))) (tRet (tC (.bl false))) tNext)
    (tRet (tAndV (tCB (rAll K) (tCons (tLc (iList K (tSl2 K 0 (tVar 0))) (gName 1) tYes (tCall (sp_is_within K) [] E0 (tCons (tVar 1) (tCons (tUn (rU fun i => .int (-i)) (tC (.int 1))) (tCons (tC (.int 7)) tNil)))) [1]) tNil)) (tCB (rAll K) (tCons (tLc (iList K (tSl2 K 1 (tVar 0))) (gName 2) tYes (tCall (sp_is_length K) [] E0 (tCons (tVar 2) tNil)) [2]) tNil)))))
theorem w_are_pieces (T : Txt K mg) (cdv : Value) (A : Around) (outer : List Env) (s : Shared) (H : Hp) (E : XK) (hr : Room 4 (A.deeper (envOfC "are_pieces" (defScope s_are_pieces) s.heap.objs.size (He.fAd K ("are_pieces", none)) cdv))) :
    PSs (cxOf CX0 P w K mg base NL_are_pieces "are_pieces" (defScope s_are_pieces) (He.fAd K ("are_pieces", none)) cdv A outer s H E).nox (defBody s_are_pieces) (t_are_pieces K) := by
  exact (pss_cons (ps_if (PW.pt (pw_or (pt_cmpR op_ne (pe_op op_mod (pe_callB call_len_seq rfl (T.free 78 rfl) (by decide +kernel) (pa_cons (pv 0) pa_nil)) (by exact pe_int)) (by exact pe_int) (nomark _)) (pw_or1 (pt_cmpR op_gt (pe_op op_fdiv (pe_callB call_len_seq rfl (T.free 78 rfl) (by decide +kernel) (pa_cons (pv 0) pa_nil)) (by exact pe_int)) (by exact pe_int) (nomark _))))) (pss_one (ps_ret (by exact pe_bl))) pss_nil)
    (pss_one (ps_ret (pe_and (pe_callB (cr_all rfl) rfl (T.free 83 rfl) (by decide +kernel) (pa_cons (pe_lc (own := [("k", 1)]) (g := gName 1) (tt := tYes) rfl sc_are_pieces.nd (pi_list (pe_slice2 0 (by decide) (pv 0))) (blkOk_by (own := [("k", 1)]) (N := NL_are_pieces) (sc := (defScope s_are_pieces)) (by decide +kernel)) (fun _ _ _ _ _ => pg_name (i := 1) sc_are_pieces.nd rfl (.inl rfl)) (fun _ _ _ _ _ => pts_nil) (fun _ _ _ _ _ => (pe_callG (ok_is_within T) (hr.mono (by decide)) rfl (T.glo 0 rfl) (pa_cons (pv 1) (pa_cons (pe_un un_neg (by exact pe_int)) (pa_cons (by exact pe_int) pa_nil)))))) pa_nil)) (pe_one (pe_callB (cr_all rfl) rfl (T.free 83 rfl) (by decide +kernel) (pa_cons (pe_lc (own := [("length", 2)]) (g := gName 2) (tt := tYes) rfl sc_are_pieces.nd (pi_list (pe_slice2 1 (by decide) (pv 0))) (blkOk_by (own := [("length", 2)]) (N := NL_are_pieces) (sc := (defScope s_are_pieces)) (by decide +kernel)) (fun _ _ _ _ _ => pg_name (i := 2) sc_are_pieces.nd rfl (.inl rfl)) (fun _ _ _ _ _ => pts_nil) (fun _ _ _ _ _ => (pe_callG (ok_is_length T) (hr.mono (by decide)) rfl (T.glo 3 rfl) (pa_cons (pv 2) pa_nil)))) pa_nil)))))))
theorem pure_are_pieces (T : Txt K mg) (h : sp_are_pieces K vs H Q E) : t_are_pieces K { nx := fun _ H' => Q .non H', rt := Q } (start NL_are_pieces vs) H := by
  obtain ⟨a, ns, rfl, hs, ⟨hl, _⟩, k⟩ := h
  refine q_when (et_or (et_test (ev_nei (ev_mod (ev_lenI (ev_var rfl) hs) ev_c (by decide)) ev_c)) fun _ => et_test (ev_gt (ev_div (ev_lenI (ev_var rfl) hs) ev_c (by decide)) ev_c)) (fun hb H1 e1 => s_ret ev_c fun H2 e2 => ?_) (fun hb H1 e1 => ?_)
  · have z : mPieces ns = false := if_pos hb
    rw [← z]
    exact k H2 (e1.trans e2)
  · have z : mPieces ns = ((evs ns).all (TimBase.within (-1) 7) && (ods ns).all Wrtibu.isLong) := by
      unfold mPieces
      rw [if_neg (by rw [hb]; decide)]
    have hs1 := ex_l e1 hs
    refine s_ret (ev_bl (ev_andV (ev_allMap (TimBase.within (-1) 7) (el_sl2i (ev_var rfl) hs1) (evens_le hl) (fun _ => rfl) fun H4 n e4 _ => ev_I3 (ev_var rfl) (ev_neg ev_c) ev_c) fun _ =>
      ev_allMap Wrtibu.isLong (el_sl2i (ev_var rfl) hs1) (evens_le hl) (fun _ => rfl) fun H4 n e4 _ => ev_I1 (ev_var rfl)) ?_) fun H4 e4 => k H4 (e1.trans e4)
    rw [z]
theorem ok_are_pieces (T : Txt K mg) : Good P w K mg base ("are_pieces", none) 5 ["row"] (sp_are_pieces K) :=
  good_mk (d := d_are_pieces) T 15 rfl rfl rfl sc_are_pieces (fun vs H Q E h => len_are_pieces h) (fun _ _ _ _ _ _ us hl => match us, hl with | [_], _ => rfl) (fun cdv A outer s H E hr => w_are_pieces T cdv A outer s H E hr) (fun vs H Q E h => pure_are_pieces T h)
def mNumbers (ns : List Int) : Bool := if (!TimBase.within 1 201 (ns.length : Int)) = true then false else ns.all (TimBase.within (-1000000000000000) 1000000000000000)
abbrev sp_are_numbers (K : PySem.W.Frag) : Sp := spL1 K (fun _ => True) fun ns => .bl (mNumbers ns)
theorem len_are_numbers (h : sp_are_numbers K vs H Q E) : vs.length = 1 := spL1_len h
abbrev NL_are_numbers : List Str := ["row", "number"]
theorem sc_are_numbers : FnScope NL_are_numbers ["row"] (defScope s_are_numbers) := ⟨rfl, rfl, rfl, by decide +kernel, rfl, by decide +kernel, by decide +kernel⟩
def t_are_numbers (K : PySem.W.Frag) : TS := (tSeq (tIfS (tNot (tB (tCall (sp_is_within K) [] E0 (tCons (tCB (rLenS K) (tCons (tVar 0) tNil)) (tCons (tC (.int 1)) (tCons (tC (.int 201)) tNil)))))) (tRet (tC (.bl false))) tNext)
    (tRet (tCB (rAll K) (tCons (tLc (iList K (tVar 0)) (gName 1) tYes (tCall (sp_is_within K) [] E0 (tCons (tVar 1) (tCons (tUn (rU fun i => .int (-i)) (tC (.int (1000000000000000)))) (tCons (tC (.int (1000000000000000))) tNil)))) [1]) tNil))))
theorem w_are_numbers (T : Txt K mg) (cdv : Value) (A : Around) (outer : List Env) (s : Shared) (H : Hp) (E : XK) (hr : Room 1 (A.deeper (envOfC "are_numbers" (defScope s_are_numbers) s.heap.objs.size (He.fAd K ("are_numbers", none)) cdv))) :
    PSs (cxOf CX0 P w K mg base NL_are_numbers "are_numbers" (defScope s_are_numbers) (He.fAd K ("are_numbers", none)) cdv A outer s H E).nox (defBody s_are_numbers) (t_are_numbers K) := by
  exact (pss_cons (ps_if (pt_not (pt_val (pe_callG (ok_is_within T) (hr.mono (by decide)) rfl (T.glo 0 rfl) (pa_cons (pe_callB call_len_seq rfl (T.free 78 rfl) (by decide +kernel) (pa_cons (pv 0) pa_nil)) (pa_cons (by exact pe_int) (pa_cons (by exact pe_int) pa_nil)))))) (pss_one (ps_ret (by exact pe_bl))) pss_nil)
    (pss_one (ps_ret (pe_callB (cr_all rfl) rfl (T.free 83 rfl) (by decide +kernel) (pa_cons (pe_lc (own := [("number", 1)]) (g := gName 1) (tt := tYes) rfl sc_are_numbers.nd (pi_list (pv 0)) (blkOk_by (own := [("number", 1)]) (N := NL_are_numbers) (sc := (defScope s_are_numbers)) (by decide +kernel)) (fun _ _ _ _ _ => pg_name (i := 1) sc_are_numbers.nd rfl (.inl rfl)) (fun _ _ _ _ _ => pts_nil) (fun _ _ _ _ _ => (pe_callG (ok_is_within T) (hr.mono (by decide)) rfl (T.glo 0 rfl) (pa_cons (pv 1) (pa_cons (pe_un un_neg (pe_gi rfl (T.int 95 rfl))) (pa_cons (pe_gi rfl (T.int 95 rfl)) pa_nil)))))) pa_nil)))))
theorem pure_are_numbers (T : Txt K mg) (h : sp_are_numbers K vs H Q E) : t_are_numbers K { nx := fun _ H' => Q .non H', rt := Q } (start NL_are_numbers vs) H := by
  obtain ⟨a, ns, rfl, hs, ⟨hl, _⟩, k⟩ := h
  refine q_when (et_not (et_B (ev_I3 (ev_lenI (ev_var rfl) hs) ev_c ev_c))) (fun hb H1 e1 => s_ret ev_c fun H2 e2 => ?_) (fun hb H1 e1 => ?_)
  · have z : mNumbers ns = false := if_pos hb
    rw [← z]
    exact k H2 (e1.trans e2)
  · have z : mNumbers ns = ns.all (TimBase.within (-1000000000000000) 1000000000000000) := by
      unfold mNumbers
      rw [if_neg (by rw [hb]; decide)]
    refine s_ret (ev_bl (ev_allMapE (TimBase.within (-1000000000000000) 1000000000000000) (ev_var rfl) (ex_l e1 hs) hl (fun _ => rfl) fun n _ => ev_I3 (ev_var rfl) (ev_neg ev_c) ev_c) ?_) fun H4 e4 => k H4 (e1.trans e4)
    rw [z]
theorem ok_are_numbers (T : Txt K mg) : Good P w K mg base ("are_numbers", none) 2 ["row"] (sp_are_numbers K) :=
  good_mk (d := d_are_numbers) T 16 rfl rfl rfl sc_are_numbers (fun vs H Q E h => len_are_numbers h) (fun _ _ _ _ _ _ us hl => match us, hl with | [_], _ => rfl) (fun cdv A outer s H E hr => w_are_numbers T cdv A outer s H E hr) (fun vs H Q E h => pure_are_numbers T h)
/-- pairs_of -/
def pairsL : List Int → List (List Int)
  | a :: b :: r => [a, b] :: pairsL r
  | _ => []
theorem pairsL_len : ∀ ns : List Int, (pairsL ns).length = ns.length / 2
  | [] => by simp [pairsL]
  | [_] => by simp [pairsL]
  | a :: b :: r => by
    show (pairsL r).length + 1 = (r.length + 1 + 1) / 2
    rw [pairsL_len r]
    omega
theorem pairsL_get : ∀ (ns : List Int) (i : Nat) (x y : Int), ns[2 * i]? = some x → ns[2 * i + 1]? = some y → (pairsL ns)[i]? = some [x, y]
  | [], i, x, y, h, _ => by simp at h
  | [a], i, x, y, _, h => by simp at h
  | a :: b :: r, 0, x, y, h1, h2 => by
    cases h1
    cases h2
    rfl
  | a :: b :: r, i + 1, x, y, h1, h2 => by
    rw [show 2 * (i + 1) = 2 * i + 1 + 1 by omega, List.getElem?_cons_succ, List.getElem?_cons_succ] at h1
    rw [show 2 * (i + 1) + 1 = 2 * i + 1 + 1 + 1 by omega, List.getElem?_cons_succ, List.getElem?_cons_succ] at h2
    show ([a, b] :: pairsL r)[i + 1]? = _
    rw [List.getElem?_cons_succ]
    exact pairsL_get r i x y h1 h2
def sp_pairs_of (K : PySem.W.Frag) : Sp := fun vs H Q _ => ∃ (a : Addr) (ns : List Int), vs = [.ref a] ∧ SqL K H a (ns.map V.int) ∧ ns.length ≤ 1000 ∧ ns.length % 2 = 0 ∧ RetT K (pairsL ns) H Q
theorem len_pairs_of (h : sp_pairs_of K vs H Q E) : vs.length = 1 := by
  obtain ⟨a, ns, rfl, _⟩ := h
  rfl
abbrev NL_pairs_of : List Str := ["row", "at"]
theorem sc_pairs_of : FnScope NL_pairs_of ["row"] (defScope s_pairs_of) := ⟨rfl, rfl, rfl, by decide +kernel, rfl, by decide +kernel, by decide +kernel⟩
def t_pairs_of (K : PySem.W.Frag) : TS := (tRet (tLc (iRng3 (tCons (tC (.int 0)) (tCons (tCB (rLenS K) (tCons (tVar 0) tNil)) (tCons (tC (.int 2)) tNil)))) (gName 1) tYes (tTup (tCons (tOp (rIxL K) (tVar 0) (tVar 1)) (tCons (tOp (rIxL K) (tVar 0) (tOp (rI0 fun i j => .int (i + j)) (tVar 1) (tC (.int 1)))) tNil))) [1]))
theorem w_pairs_of (T : Txt K mg) (cdv : Value) (A : Around) (outer : List Env) (s : Shared) (H : Hp) (E : XK) (hr : Room 0 (A.deeper (envOfC "pairs_of" (defScope s_pairs_of) s.heap.objs.size (He.fAd K ("pairs_of", none)) cdv))) :
    PSs (cxOf CX0 P w K mg base NL_pairs_of "pairs_of" (defScope s_pairs_of) (He.fAd K ("pairs_of", none)) cdv A outer s H E).nox (defBody s_pairs_of) (t_pairs_of K) := by
  exact (pss_one (ps_ret (pe_lc (own := [("at", 1)]) (g := gName 1) (tt := tYes) rfl sc_pairs_of.nd (pi_range3 rfl (T.free 79 rfl) (pa_cons (by exact pe_int) (pa_cons (pe_callB call_len_seq rfl (T.free 78 rfl) (by decide +kernel) (pa_cons (pv 0) pa_nil)) (pa_cons (by exact pe_int) pa_nil)))) (blkOk_by (own := [("at", 1)]) (N := NL_pairs_of) (sc := (defScope s_pairs_of)) (by decide +kernel)) (fun _ _ _ _ _ => pg_name (i := 1) sc_pairs_of.nd rfl (.inl rfl)) (fun _ _ _ _ _ => pts_nil) (fun _ _ _ _ _ => (pe_tup (pa_cons (pe_ix ix_list (pv 0) (pv 1) (fun _ _ => rfl)) (pa_cons (pe_ix ix_list (pv 0) (pe_op op_add (pv 1) (by exact pe_int)) (fun _ _ => rfl)) pa_nil)))))))
theorem pure_pairs_of (T : Txt K mg) (h : sp_pairs_of K vs H Q E) : t_pairs_of K { nx := fun _ H' => Q .non H', rt := Q } (start NL_pairs_of vs) H := by
  obtain ⟨a, ns, rfl, hs, hl, h2, k⟩ := h
  show tLc _ _ _ _ _ [some (.ref a), none] H Q
  refine lc_relC (lo := 0) (hi := (ns.length : Int)) (c := 2) (n := ns.length / 2) (fun _ i y H => ∃ (t : Addr) (z : List Int), y = .ref t ∧ (pairsL ns)[i]? = some z ∧ SqT K H t (z.map V.int))
    (fun D i y H1 H2 zs hD ⟨t, z, e1, e2, e3⟩ kk => ⟨t, z, e1, e2, sqT_but hD e3 kk⟩) (ea_cons ev_c (ea_cons (ev_lenI (ev_var rfl) hs) (ea_cons ev_c ea_nil))) (RgC_up' (by decide) (by decide) (by omega) (by omega) (by decide) (by decide) (by split <;> omega)) (by omega) (fun _ => rfl) ?_ ?_
  · intro D i H1 zs hD e1 h1 hi Q' q
    obtain ⟨x, hx⟩ : ∃ x, ns[2 * i]? = some x := ⟨_, List.getElem?_eq_getElem (by omega)⟩
    obtain ⟨y, hy⟩ : ∃ y, ns[2 * i + 1]? = some y := ⟨_, List.getElem?_eq_getElem (by omega)⟩
    have z := eu_tup (ea_cons (ev_ixL (K := K) (ev_var (σ := [some (.ref a), some (.int (0 + (i : Nat) * 2))]) (i := 0) rfl) (ev_var (i := 1) rfl) (ex_l e1 hs) (at_int (n := 2 * i) (by omega) hx)) (ea_cons (ev_ixL (ev_var (i := 0) rfl) (ev_add (ev_var (i := 1) rfl) (ev_c (v := .int 1))) (ex_l e1 hs) (at_int (n := 2 * i + 1) (by omega) hy)) ea_nil)) (by show 2 ≤ 100000; decide)
    exact z H1 (Ex.refl H1) Q' fun p H2 hp e2 h2 => q _ H2 e2 ⟨p, [x, y], rfl, pairsL_get ns i x y hx hy, st_of h2⟩
  · intro p p' ys H2 hp e h1 hn hR ep
    cases ep
    obtain ⟨ts, rfl, ht⟩ := refs_of (F := fun t (z : List Int) => SqT K H2 t (z.map V.int)) (ks := pairsL ns) (by rw [hn, pairsL_len]) fun j y z hj hz => by
      obtain ⟨t, z', e1, e2, e3⟩ := hR j y hj
      rw [hz] at e2
      cases e2
      exact ⟨t, e1, e3⟩
    exact k p ts H2 hp e h1 ht
theorem ok_pairs_of (T : Txt K mg) : Good P w K mg base ("pairs_of", none) 1 ["row"] (sp_pairs_of K) :=
  good_mk (d := d_pairs_of) T 17 rfl rfl rfl sc_pairs_of (fun vs H Q E h => len_pairs_of h) (fun _ _ _ _ _ _ us hl => match us, hl with | [_], _ => rfl) (fun cdv A outer s H E hr => w_pairs_of T cdv A outer s H E hr) (fun vs H Q E h => pure_pairs_of T h)
end
end Sb
end
section
set_option maxHeartbeats 4000000
namespace Sb
open PySem PySem.Spec PySem.Calls PyProof.Rows L2 Evl
open TimBuck (Stem Product Piece diameterIn)
/-! ### more steps -/
section
variable {K : PySem.W.Frag} {σ : L2.St} {H : Hp} {D : Ends} {tu tz : TS} {te : TE}
theorem s_forC {ta : TA} {lo hi c : Int} {n j : Nat} (h : EvA ta σ H [.int lo, .int hi, .int c]) (hn : RgC lo hi c n) (Pv : Nat → L2.St → Hp → Prop) (h0 : ∀ H1, Ex H H1 → Pv 0 σ H1)
    (hs : ∀ (i : Nat) σ' H', i < n → Pv i σ' H' → tu { D with nx := Pv (i + 1), ct := Pv (i + 1), bk := D.nx } (σ'.set j (some (.int (lo + (i : Nat) * c)))) H') (hd : ∀ σ' H', Pv n σ' H' → D.nx σ' H') : tFor (iRng3 ta) (gName j) tu D σ H :=
  h H (Ex.refl H) _ fun H1 e => ⟨lo, hi, c, n, rfl, hn, for_rangeC (lo := lo) (c := c) (n := n) Pv (h0 H1 e) (fun i σ' H' hi p => hs i σ' H' hi p) hd⟩
theorem q_forC {ta : TA} {lo hi c : Int} {n j : Nat} (h : EvA ta σ H [.int lo, .int hi, .int c]) (hn : RgC lo hi c n) (Pv : Nat → L2.St → Hp → Prop) (h0 : ∀ H1, Ex H H1 → Pv 0 σ H1)
    (hs : ∀ (i : Nat) σ' H', i < n → Pv i σ' H' → tu { D with nx := Pv (i + 1), ct := Pv (i + 1), bk := tz D } (σ'.set j (some (.int (lo + (i : Nat) * c)))) H') (hd : ∀ σ' H', Pv n σ' H' → tz D σ' H') : tSeq (tFor (iRng3 ta) (gName j) tu) tz D σ H :=
  s_forC (D := { D with nx := tz D }) h hn Pv h0 hs hd
/-- a list of values over a range with a step -/
theorem el_mapC {ta : TA} {lo hi c : Int} {n : Nat} {j : Nat} {vs : List Nat} (f : Nat → V) (h : EvA ta σ H [.int lo, .int hi, .int c]) (hn : RgC lo hi c n) (hz : n < 100000) (hw : ∀ x, wipe ((wipe σ vs).set j (some x)) vs = wipe σ vs)
    (he : ∀ (i : Nat), i < n → Ev te ((wipe σ vs).set j (some (.int (lo + (i : Nat) * c)))) H (f i)) : EvL (tLc (iRng3 ta) (gName j) tYes te vs) σ H ((List.range n).map f) := fun H0 e0 Q q => h H0 e0 _ fun H1 e1 => ⟨lo, hi, c, n, rfl, hn, fun Dl hD =>
  lc_rangeC (fun i H' => Ex H1 H' ∧ H' Dl = some (.lst ((List.range i).map f))) ⟨Ex.new hD, upd_same⟩ (fun i H' hi p => ⟨hw _, by
      show te ((wipe σ vs).set j (some (.int (lo + (i : Nat) * c)))) H' fun y H4 => _
      refine he i hi H' ((e0.trans e1).trans p.1) _ fun H4 e4 => ⟨(List.range i).map f, e4 _ _ p.2, sz_lt (by rw [List.length_map, List.length_range]; omega), Ex.mut (p.1.trans e4) hD, ?_⟩
      rw [List.range_succ, List.map_append]
      exact upd_same⟩)
    (fun H' p => q Dl H' (fresh_back e1 hD) (e1.trans p.1) p.2)⟩
/-- the same over range(n) -/
theorem el_mapR {ta : TA} {n : Nat} {j : Nat} {vs : List Nat} (f : Nat → V) (h : EvA ta σ H [.int (n : Int)]) (hz : n < 100000) (hw : ∀ x, wipe ((wipe σ vs).set j (some x)) vs = wipe σ vs)
    (he : ∀ (i : Nat), i < n → Ev te ((wipe σ vs).set j (some (.int (i : Int)))) H (f i)) : EvL (tLc (iRng1 ta) (gName j) tYes te vs) σ H ((List.range n).map f) := fun H0 e0 Q q => h H0 e0 _ fun H1 e1 => ⟨(n : Int), rfl, by omega, by omega, fun Dl hD => by
  have e2 : (n : Int).toNat = n := by simp
  rw [e2]
  exact lc_range (lo := 0) (fun i H' => Ex H1 H' ∧ H' Dl = some (.lst ((List.range i).map f))) ⟨Ex.new hD, upd_same⟩ (fun i H' hi p => ⟨hw _, by
      have e3 : (0 : Int) + (i : Int) = (i : Int) := Int.zero_add _
      show te ((wipe σ vs).set j (some (.int ((0 : Int) + (i : Int))))) H' fun y H4 => _
      rw [e3]
      refine he i hi H' ((e0.trans e1).trans p.1) _ fun H4 e4 => ⟨(List.range i).map f, e4 _ _ p.2, sz_lt (by rw [List.length_map, List.length_range]; omega), Ex.mut (p.1.trans e4) hD, ?_⟩
      rw [List.range_succ, List.map_append]
      exact upd_same⟩)
    (fun H' p => q Dl H' (fresh_back e1 hD) (e1.trans p.1) p.2)⟩
theorem cutV_map {α : Type} (f : α → V) (l : List α) (a b : Nat) (ha : a ≤ b) (hb : b ≤ l.length) : cutV (l.map f) (some (a : Int)) (some (b : Int)) = ((l.drop a).take (b - a)).map f := by
  unfold cutV
  rw [HT.sIx_nat, HT.sIx_nat, List.length_map, Nat.min_eq_left hb, Nat.min_eq_left (Nat.le_trans ha hb), List.map_take, List.map_drop]
end
section
variable {P : Program} {w : World} {K : PySem.W.Frag} {mg : Str → Option Value} {base : Heap} {vs : List V} {H : Hp} {Q : VK} {E : XK}
def sp_rounded_up (_ : PySem.W.Frag) : Sp := fun vs H Q _ => ∃ a b : Int, vs = [.int a, .int b] ∧ (0 < b ∧ b < 1073741824) ∧ ∀ H', Ex H H' → Q (.int ((a + b - 1) / b)) H'
theorem len_rounded_up (h : sp_rounded_up K vs H Q E) : vs.length = 2 := by
  obtain ⟨a, b, rfl, _⟩ := h
  rfl
abbrev NL_rounded_up : List Str := ["above", "below"]
theorem sc_rounded_up : FnScope NL_rounded_up ["above", "below"] (defScope s_rounded_up) := ⟨rfl, rfl, rfl, by decide +kernel, rfl, by decide +kernel, by decide +kernel⟩
def t_rounded_up (K : PySem.W.Frag) : TS := (tRet (tOp (rI CDiv fun i j => .int (i / j)) (tOp (rI0 fun i j => .int (i - j)) (tOp (rI0 fun i j => .int (i + j)) (tVar 0) (tVar 1)) (tC (.int 1))) (tVar 1)))
theorem w_rounded_up (T : Txt K mg) (cdv : Value) (A : Around) (outer : List Env) (s : Shared) (H : Hp) (E : XK) (hr : Room 0 (A.deeper (envOfC "rounded_up" (defScope s_rounded_up) s.heap.objs.size (He.fAd K ("rounded_up", none)) cdv))) :
    PSs (cxOf CX0 P w K mg base NL_rounded_up "rounded_up" (defScope s_rounded_up) (He.fAd K ("rounded_up", none)) cdv A outer s H E).nox (defBody s_rounded_up) (t_rounded_up K) := by
  exact (pss_one (ps_ret (pe_op op_fdiv (pe_op op_sub (pe_op op_add (pv 0) (pv 1)) (by exact pe_int)) (pv 1))))
theorem pure_rounded_up (T : Txt K mg) (h : sp_rounded_up K vs H Q E) : t_rounded_up K { nx := fun _ H' => Q .non H', rt := Q } (start NL_rounded_up vs) H := by
  obtain ⟨a, b, rfl, hb, k⟩ := h
  exact s_ret (ev_div (ev_sub (ev_add (ev_var rfl) (ev_var rfl)) ev_c) (ev_var rfl) hb) k
theorem ok_rounded_up (T : Txt K mg) : Good P w K mg base ("rounded_up", none) 1 ["above", "below"] (sp_rounded_up K) :=
  good_mk (d := d_rounded_up) T 18 rfl rfl rfl sc_rounded_up (fun vs H Q E h => len_rounded_up h) (fun _ _ _ _ _ _ us hl => match us, hl with | [_, _], _ => rfl) (fun cdv A outer s H E hr => w_rounded_up T cdv A outer s H E hr) (fun vs H Q E h => pure_rounded_up T h)
theorem ev_rounded_up {σ : L2.St} {ta tb : TE} {E' : XK} {a b : Int} (h : Ev ta σ H (.int a)) (h2 : Ev tb σ H (.int b)) (hb : 0 < b ∧ b < 1073741824) : Ev (tCall (sp_rounded_up K) [] E' (tCons ta (tCons tb tNil))) σ H (.int ((a + b - 1) / b)) :=
  ev_call (ea_cons h (ea_cons h2 ea_nil)) fun _ _ _ q _ => ⟨a, b, rfl, hb, q⟩
/-- points as they lie -/
def PtsAt (K : PySem.W.Frag) (H : Hp) (a : Addr) (l : List (Nat × Nat)) : Prop := ∃ ts : List Addr, SqL K H a (ts.map V.ref) ∧ Tups K H ts (l.map encP)
theorem PtsAt.mono {H' : Hp} {a : Addr} {l : List (Nat × Nat)} (e : Ex H H') (h : PtsAt K H a l) : PtsAt K H' a l := by
  obtain ⟨ts, h1, h2⟩ := h
  exact ⟨ts, ex_l e h1, tups_ex e h2⟩
theorem PtsAt.len {a : Addr} {l : List (Nat × Nat)} {ts : List Addr} (h2 : Tups K H ts (l.map encP)) : ts.length = l.length := by rw [h2.length, List.length_map]
theorem PtsAt.get {a : Addr} {l : List (Nat × Nat)} {ts : List Addr} (h2 : Tups K H ts (l.map encP)) {i : Nat} {p : Nat × Nat} (hp : l[i]? = some p) : ∃ t, ts[i]? = some t ∧ SqT K H t [.int (p.1 : Int), .int (p.2 : Int)] :=
  tups_at h2 (k := encP p) (by rw [List.getElem?_map, hp]; rfl)
def sp_upper_point (K : PySem.W.Frag) : Sp := fun vs H Q _ => ∃ (a : Addr) (l : List (Nat × Nat)) (x : Nat), vs = [.ref a, .int (x : Int)] ∧ PtsAt K H a l ∧ PtsOk l ∧ x ≤ lastH l ∧ ∀ U H', Up l x U → Ex H H' → Q (.int (U : Int)) H'
theorem len_upper_point (h : sp_upper_point K vs H Q E) : vs.length = 2 := by
  obtain ⟨a, b, c, rfl, _⟩ := h
  rfl
abbrev NL_upper_point : List Str := ["points", "x", "upper", "at"]
theorem sc_upper_point : FnScope NL_upper_point ["points", "x"] (defScope s_upper_point) := ⟨rfl, rfl, rfl, by decide +kernel, rfl, by decide +kernel, by decide +kernel⟩
def t_upper_point (K : PySem.W.Frag) : TS := (tSeq (tAsg (tOp (rI0 fun i j => .int (i - j)) (tCB (rLenS K) (tCons (tVar 0) tNil)) (tC (.int 1))) (gName 2))
    (tSeq (tFor (iRng3 (tCons (tOp (rI0 fun i j => .int (i - j)) (tCB (rLenS K) (tCons (tVar 0) tNil)) (tC (.int 1))) (tCons (tC (.int 0)) (tCons (tUn (rU fun i => .int (-i)) (tC (.int 1))) tNil)))) (gName 3) (tIfS (tTest (tOp (rI0 fun i j => .bl (decide (i ≤ j))) (tVar 1) (tOp (rIxT K) (tOp (rIxL K) (tVar 0) (tVar 3)) (tC (.int 0))))) (tAsg (tVar 3) (gName 2)) tNext))
    (tRet (tVar 2))))
theorem w_upper_point (T : Txt K mg) (cdv : Value) (A : Around) (outer : List Env) (s : Shared) (H : Hp) (E : XK) (hr : Room 0 (A.deeper (envOfC "upper_point" (defScope s_upper_point) s.heap.objs.size (He.fAd K ("upper_point", none)) cdv))) :
    PSs (cxOf CX0 P w K mg base NL_upper_point "upper_point" (defScope s_upper_point) (He.fAd K ("upper_point", none)) cdv A outer s H E).nox (defBody s_upper_point) (t_upper_point K) := by
  exact (pss_cons (ps_set (i := 2) sc_upper_point.nd rfl (.inl rfl) (pe_op op_sub (pe_callB call_len_seq rfl (T.free 78 rfl) (by decide +kernel) (pa_cons (pv 0) pa_nil)) (by exact pe_int)))
    (pss_cons (ps_for PassesOwn.never rfl (pi_range3 rfl (T.free 79 rfl) (pa_cons (pe_op op_sub (pe_callB call_len_seq rfl (T.free 78 rfl) (by decide +kernel) (pa_cons (pv 0) pa_nil)) (by exact pe_int)) (pa_cons (by exact pe_int) (pa_cons (pe_un un_neg (by exact pe_int)) pa_nil)))) (pg_name (i := 3) sc_upper_point.nd rfl (.inl rfl)) (pss_one (ps_if (pt_cmpR op_le (pv 1) (pe_ix ix_tup (pe_ix ix_list (pv 0) (pv 3) (fun _ _ => rfl)) (by exact pe_int) (fun _ _ => rfl)) (nomark _)) (pss_one (ps_set (i := 2) sc_upper_point.nd rfl (.inl rfl) (pv 3))) pss_nil)))
    (pss_one (ps_ret (pv 2)))))
theorem pure_upper_point (T : Txt K mg) (h : sp_upper_point K vs H Q E) : t_upper_point K { nx := fun _ H' => Q .non H', rt := Q } (start NL_upper_point vs) H := by
  obtain ⟨a, l, x, rfl, ⟨ts, hs, ht⟩, o, hx, k⟩ := h
  have hl := PtsAt.len (a := a) ht
  have two := o.two
  have most := o.most
  obtain ⟨q0, hq0, _⟩ := o.at_ (i := l.length - 1) (by omega)
  have elen : ∀ {σ : L2.St} {H' : Hp}, σ[0]? = some (some (.ref a)) → Ex H H' → Ev (tCB (rLenS K) (tCons (tVar 0) tNil)) σ H' (.int (l.length : Int)) := fun hσ e => ev_is (ev_len (ev_var hσ) (ex_l e hs)) (by rw [List.length_map, hl])
  refine q_asg (ev_sub (elen rfl (Ex.refl H)) ev_c) fun H1 e1 => ?_
  refine q_forC (lo := (l.length : Int) - 1) (hi := 0) (c := -1) (n := l.length - 1) (ea_cons (ev_sub (elen rfl e1) ev_c) (ea_cons ev_c (ea_cons (ev_neg ev_c) ea_nil))) ?_
    (fun i σ' H' => ∃ (u : Nat) (v : Option V), σ' = [some (.ref a), some (.int (x : Int)), some (.int (u : Int)), v] ∧ Ex H H' ∧ 1 ≤ u ∧ u < l.length ∧ (∃ q, l[u]? = some q ∧ x ≤ q.1) ∧ ∀ (j : Nat) (q : Nat × Nat), l.length - 1 - i < j → j < u → l[j]? = some q → q.1 < x) ?_ ?_ ?_
  · have h := RgC.neg (i := (l.length : Int) - 1) (j := 0) (by omega) (by omega) (by decide) (by decide)
    have e : ((l.length : Int) - 1 - 0).toNat = l.length - 1 := by omega
    rw [e] at h
    exact h
  · intro H2 e2
    refine ⟨l.length - 1, none, ?_, e1.trans e2, by omega, by omega, ⟨q0, hq0, by rw [lastH_at hq0] at hx; exact hx⟩, fun j q h1 h2 _ => by omega⟩
    show [some (V.ref a), some (V.int (x : Int)), some (V.int ((l.length : Int) - 1)), none] = _
    rw [show ((l.length : Int) - 1) = ((l.length - 1 : Nat) : Int) by omega]
  · rintro i σ' H' hi ⟨u, v, rfl, e, h1, h2, h3, h4⟩
    obtain ⟨p, hp, _⟩ := o.at_ (i := l.length - 1 - i) (by omega)
    obtain ⟨t, ht1, ht2⟩ := PtsAt.get (a := a) ht hp
    have ei : (l.length : Int) - 1 + (i : Nat) * (-1) = ((l.length - 1 - i : Nat) : Int) := by omega
    rw [ei]
    show tIfS _ _ _ _ [some (.ref a), some (.int (x : Int)), some (.int (u : Int)), some (.int ((l.length - 1 - i : Nat) : Int))] H'
    refine s_if (et_test (ev_le (ev_var rfl) (ev_ixT (ev_ixL (ev_var rfl) (ev_var rfl) (ex_l e hs) (at_ref rfl ht1)) ev_c (ex_t e ht2) rfl))) (fun hb H2 e2 => ?_) (fun hb H2 e2 => ?_)
    · have hxp : x ≤ p.1 := by
        have := of_decide_eq_true hb
        omega
      refine s_asg (ev_var rfl) fun H3 e3 => ⟨l.length - 1 - i, _, rfl, (e.trans e2).trans e3, by omega, by omega, ⟨p, hp, hxp⟩, fun j q hj hlt _ => by omega⟩
    · have hxp : p.1 < x := by
        have := of_decide_eq_false hb
        omega
      refine ⟨u, _, rfl, e.trans e2, h1, h2, h3, fun j q hj hlt hq => ?_⟩
      by_cases c : j = l.length - 1 - i
      · subst c
        rw [hp] at hq
        cases hq
        exact hxp
      · exact h4 j q (by omega) hlt hq
  · rintro σ' H' ⟨u, v, rfl, e, h1, h2, h3, h4⟩
    exact s_ret (ev_var rfl) fun H2 e2 => k u H2 ⟨h1, h2, h3, fun j q hj hlt hq => h4 j q (by omega) hlt hq⟩ (e.trans e2)
theorem ok_upper_point (T : Txt K mg) : Good P w K mg base ("upper_point", none) 1 ["points", "x"] (sp_upper_point K) :=
  good_mk (d := d_upper_point) T 19 rfl rfl rfl sc_upper_point (fun vs H Q E h => len_upper_point h) (fun _ _ _ _ _ _ us hl => match us, hl with | [_, _], _ => rfl) (fun cdv A outer s H E hr => w_upper_point T cdv A outer s H E hr) (fun vs H Q E h => pure_upper_point T h)
def sp_diameter_at (K : PySem.W.Frag) : Sp := fun vs H Q _ => ∃ (a : Addr) (l : List (Nat × Nat)) (x : Nat), vs = [.ref a, .int (x : Int)] ∧ PtsAt K H a l ∧ PtsOk l ∧ x ≤ lastH l ∧ ∀ H', Ex H H' → Q (.int ((diameterIn l x : Nat) : Int)) H'
theorem len_diameter_at (h : sp_diameter_at K vs H Q E) : vs.length = 2 := by
  obtain ⟨a, b, c, rfl, _⟩ := h
  rfl
abbrev NL_diameter_at : List Str := ["points", "x", "upper", "a", "d", "b", "e"]
theorem sc_diameter_at : FnScope NL_diameter_at ["points", "x"] (defScope s_diameter_at) := ⟨rfl, rfl, rfl, by decide +kernel, rfl, by decide +kernel, by decide +kernel⟩
def t_diameter_at (K : PySem.W.Frag) : TS := (tSeq (tAsg (tCall (sp_upper_point K) [] E0 (tCons (tVar 0) (tCons (tVar 1) tNil))) (gName 2))
    (tSeq (tAsg (tOp (rIxL K) (tVar 0) (tOp (rI0 fun i j => .int (i - j)) (tVar 2) (tC (.int 1)))) (gTup K 2 (gCons (gName 3) (gCons (gName 4) gNil))))
    (tSeq (tAsg (tOp (rIxL K) (tVar 0) (tVar 2)) (gTup K 2 (gCons (gName 5) (gCons (gName 6) gNil))))
    (tRet (tOp (rI0 fun i j => .int (i - j)) (tVar 4) (tCall (sp_rounded_up K) [] E0 (tCons (tOp (rI CMul fun i j => .int (i * j)) (tOp (rI0 fun i j => .int (i - j)) (tVar 4) (tVar 6)) (tOp (rI0 fun i j => .int (i - j)) (tVar 1) (tVar 3))) (tCons (tOp (rI0 fun i j => .int (i - j)) (tVar 5) (tVar 3)) tNil))))))))
theorem w_diameter_at (T : Txt K mg) (cdv : Value) (A : Around) (outer : List Env) (s : Shared) (H : Hp) (E : XK) (hr : Room 1 (A.deeper (envOfC "diameter_at" (defScope s_diameter_at) s.heap.objs.size (He.fAd K ("diameter_at", none)) cdv))) :
    PSs (cxOf CX0 P w K mg base NL_diameter_at "diameter_at" (defScope s_diameter_at) (He.fAd K ("diameter_at", none)) cdv A outer s H E).nox (defBody s_diameter_at) (t_diameter_at K) := by
  exact (pss_cons (ps_set (i := 2) sc_diameter_at.nd rfl (.inl rfl) (pe_callG (ok_upper_point T) (hr.mono (by decide)) rfl (T.glo 19 rfl) (pa_cons (pv 0) (pa_cons (pv 1) pa_nil))))
    (pss_cons (ps_asg (pe_ix ix_list (pv 0) (pe_op op_sub (pv 2) (by exact pe_int)) (fun _ _ => rfl)) (pg_tup rfl (pgs_cons (pg_name (i := 3) sc_diameter_at.nd rfl (.inl rfl)) (pgs_cons (pg_name (i := 4) sc_diameter_at.nd rfl (.inl rfl)) pgs_nil))))
    (pss_cons (ps_asg (pe_ix ix_list (pv 0) (pv 2) (fun _ _ => rfl)) (pg_tup rfl (pgs_cons (pg_name (i := 5) sc_diameter_at.nd rfl (.inl rfl)) (pgs_cons (pg_name (i := 6) sc_diameter_at.nd rfl (.inl rfl)) pgs_nil))))
    (pss_one (ps_ret (pe_op op_sub (pv 4) (pe_callG (ok_rounded_up T) (hr.mono (by decide)) rfl (T.glo 18 rfl) (pa_cons (pe_op op_mul (pe_op op_sub (pv 4) (pv 6)) (pe_op op_sub (pv 1) (pv 3))) (pa_cons (pe_op op_sub (pv 5) (pv 3)) pa_nil)))))))))
theorem pure_diameter_at (T : Txt K mg) (h : sp_diameter_at K vs H Q E) : t_diameter_at K { nx := fun _ H' => Q .non H', rt := Q } (start NL_diameter_at vs) H := by
  obtain ⟨a, l, x, rfl, hp, o, hx, k⟩ := h
  obtain ⟨ts, hs, ht⟩ := id hp
  obtain ⟨U, hU⟩ := Up.has o hx
  have cv : Ev (tCall (sp_upper_point K) [] E0 (tCons (tVar 0) (tCons (tVar 1) tNil))) (start NL_diameter_at [.ref a, .int (x : Int)]) H (.int (U : Int)) :=
    ev_call (ea_cons (ev_var rfl) (ea_cons (ev_var rfl) ea_nil)) fun H1 e Q' q _ => ⟨a, l, x, rfl, hp.mono e, o, hx, fun W H' hW e' => by rw [hW.uniq hU]; exact q H' e'⟩
  obtain ⟨p, q, h1, h2, h3, h4, h5, h6, h7, h8⟩ := hU.nums o
  have hU1 := hU.one
  obtain ⟨t1, ht1, ht1'⟩ := PtsAt.get (a := a) ht h1
  obtain ⟨t2, ht2, ht2'⟩ := PtsAt.get (a := a) ht h2
  refine q_asg cv fun H1 e1 => ?_
  refine q_unT (σ' := [some (.ref a), some (.int (x : Int)), some (.int (U : Int)), some (.int (p.1 : Int)), some (.int (p.2 : Int)), none, none]) (ev_ixL (ev_var rfl) (ev_sub (ev_var rfl) ev_c) (ex_l e1 hs) (at_ref (n := U - 1) (by omega) ht1)) (ex_t e1 ht1') rfl (fun H' Q q => ⟨_, _, rfl, _, _, rfl, rfl, q⟩) fun H2 e2 => ?_
  refine q_unT (σ' := [some (.ref a), some (.int (x : Int)), some (.int (U : Int)), some (.int (p.1 : Int)), some (.int (p.2 : Int)), some (.int (q.1 : Int)), some (.int (q.2 : Int))]) (ev_ixL (ev_var rfl) (ev_var rfl) (ex_l (e1.trans e2) hs) (at_ref (n := U) rfl ht2)) (ex_t (e1.trans e2) ht2') rfl (fun H' Q q => ⟨_, _, rfl, _, _, rfl, rfl, q⟩) fun H3 e3 => ?_
  refine s_ret (ev_int (ev_sub (ev_var rfl) (ev_rounded_up (ev_mul (ev_sub (ev_var rfl) (ev_var rfl)) (ev_sub (ev_var rfl) (ev_var rfl)) (.inl (by omega))) (ev_sub (ev_var rfl) (ev_var rfl)) (by omega))) ?_) fun H4 e4 => k H4 (((e1.trans e2).trans e3).trans e4)
  rw [diameter_up l x U p q hU h1 h2, between_int h3 h4 h5 h6]
theorem ok_diameter_at (T : Txt K mg) : Good P w K mg base ("diameter_at", none) 2 ["points", "x"] (sp_diameter_at K) :=
  good_mk (d := d_diameter_at) T 20 rfl rfl rfl sc_diameter_at (fun vs H Q E h => len_diameter_at h) (fun _ _ _ _ _ _ us hl => match us, hl with | [_, _], _ => rfl) (fun cdv A outer s H E hr => w_diameter_at T cdv A outer s H E hr) (fun vs H Q E h => pure_diameter_at T h)
def sp_parts_of (_ : PySem.W.Frag) : Sp := fun vs H Q _ => ∃ d l : Nat, vs = [.int (d : Int), .int (l : Int)] ∧ d ≤ 2000 ∧ l ≤ 2000 ∧ ∀ H', Ex H H' → Q (.int ((TimBase.parts d l : Nat) : Int)) H'
theorem len_parts_of (h : sp_parts_of K vs H Q E) : vs.length = 2 := by
  obtain ⟨a, b, rfl, _⟩ := h
  rfl
abbrev NL_parts_of : List Str := ["diameter", "length"]
theorem sc_parts_of : FnScope NL_parts_of ["diameter", "length"] (defScope s_parts_of) := ⟨rfl, rfl, rfl, by decide +kernel, rfl, by decide +kernel, by decide +kernel⟩
def t_parts_of (K : PySem.W.Frag) : TS := (tRet (tOp (rI CMul fun i j => .int (i * j)) (tOp (rI CMul fun i j => .int (i * j)) (tOp (rI CMul fun i j => .int (i * j)) (tC (.int 7854)) (tVar 0)) (tVar 0)) (tVar 1)))
theorem w_parts_of (T : Txt K mg) (cdv : Value) (A : Around) (outer : List Env) (s : Shared) (H : Hp) (E : XK) (hr : Room 0 (A.deeper (envOfC "parts_of" (defScope s_parts_of) s.heap.objs.size (He.fAd K ("parts_of", none)) cdv))) :
    PSs (cxOf CX0 P w K mg base NL_parts_of "parts_of" (defScope s_parts_of) (He.fAd K ("parts_of", none)) cdv A outer s H E).nox (defBody s_parts_of) (t_parts_of K) := by
  exact (pss_one (ps_ret (pe_op op_mul (pe_op op_mul (pe_op op_mul (by exact pe_int) (pv 0)) (pv 0)) (pv 1))))
theorem pure_parts_of (T : Txt K mg) (h : sp_parts_of K vs H Q E) : t_parts_of K { nx := fun _ H' => Q .non H', rt := Q } (start NL_parts_of vs) H := by
  obtain ⟨d, l, rfl, hd, hl, k⟩ := h
  refine s_ret (ev_int (ev_mul (ev_mul (ev_mul ev_c (ev_var rfl) (.inl (by decide))) (ev_var rfl) (.inr (by omega))) (ev_var rfl) (.inr (by omega))) ?_) k
  show _ = ((7854 * d * d * l : Nat) : Int)
  rw [Int.natCast_mul, Int.natCast_mul, Int.natCast_mul]
  rfl
theorem ok_parts_of (T : Txt K mg) : Good P w K mg base ("parts_of", none) 1 ["diameter", "length"] (sp_parts_of K) :=
  good_mk (d := d_parts_of) T 21 rfl rfl rfl sc_parts_of (fun vs H Q E h => len_parts_of h) (fun _ _ _ _ _ _ us hl => match us, hl with | [_, _], _ => rfl) (fun cdv A outer s H E hr => w_parts_of T cdv A outer s H E hr) (fun vs H Q E h => pure_parts_of T h)
theorem ev_parts_of {σ : L2.St} {ta tb : TE} {E' : XK} {a b : Nat} (h : Ev ta σ H (.int (a : Int))) (h2 : Ev tb σ H (.int (b : Int))) (ha : a ≤ 2000) (hb : b ≤ 2000) : Ev (tCall (sp_parts_of K) [] E' (tCons ta (tCons tb tNil))) σ H (.int ((TimBase.parts a b : Nat) : Int)) :=
  ev_call (ea_cons h (ea_cons h2 ea_nil)) fun _ _ _ q _ => ⟨a, b, rfl, ha, hb, q⟩
end
end Sb
end
section
set_option maxHeartbeats 4000000
namespace Sb
open PySem PySem.Spec PySem.Calls PyProof.Rows L2 Evl
open TimBuck (Stem Product Piece diameterIn)
/-- all but what stands at a -/
def But (a : Addr) (H H' : Hp) : Prop := ∀ b o, b ≠ a → H b = some o → H' b = some o
section
variable {P : Program} {w : World} {K : PySem.W.Frag} {mg : Str → Option Value} {base : Heap} {vs : List V} {H : Hp} {Q : VK} {E : XK}
/-! ## promises of a stem's methods that tell a number -/
def spS0 (K : PySem.W.Frag) (f : Stem → V) : Sp := fun vs H Q _ => ∃ (A : StA) (s : Stem), vs = [.ref A.s] ∧ StemAt K H A s ∧ ∀ H', Ex H H' → Q (f s) H'
def spS1 (K : PySem.W.Frag) (C : Stem → Nat → Prop) (f : Stem → Nat → V) : Sp := fun vs H Q _ => ∃ (A : StA) (s : Stem) (x : Nat), vs = [.ref A.s, .int (x : Int)] ∧ StemAt K H A s ∧ C s x ∧ ∀ H', Ex H H' → Q (f s x) H'
def spS2 (K : PySem.W.Frag) (C : Stem → Nat → Nat → Prop) (f : Stem → Nat → Nat → V) : Sp := fun vs H Q _ => ∃ (A : StA) (s : Stem) (a b : Nat), vs = [.ref A.s, .int (a : Int), .int (b : Int)] ∧ StemAt K H A s ∧ C s a b ∧ ∀ H', Ex H H' → Q (f s a b) H'
theorem spS0_len {f : Stem → V} (h : spS0 K f vs H Q E) : vs.length = 1 := by
  obtain ⟨A, s, rfl, _⟩ := h
  rfl
theorem spS1_len {C : Stem → Nat → Prop} {f : Stem → Nat → V} (h : spS1 K C f vs H Q E) : vs.length = 2 := by
  obtain ⟨A, s, x, rfl, _⟩ := h
  rfl
theorem spS2_len {C : Stem → Nat → Nat → Prop} {f : Stem → Nat → Nat → V} (h : spS2 K C f vs H Q E) : vs.length = 3 := by
  obtain ⟨A, s, a, b, rfl, _⟩ := h
  rfl
section
variable {σ : L2.St} {ta tb tc : TE} {m : Str} {E' : XK} {A : StA} {s : Stem}
theorem ev_meth {sp : Sp} {t : TA} {us : List V} {z : V} (h : Ev ta σ H (.ref A.s)) (hs : StemAt K H A s) (hm : (stF A s.top).lookup m = none) (ht : EvA t σ H us) (hc : SpV sp (.ref A.s :: us) H z) : Ev (tMeth (He.ga K "Stem") m sp [] E' ta t) σ H z := fun H1 e Q q =>
  h H1 e _ fun H2 e2 => ⟨A.s, A.dx, _, rfl, (hs.mono (e.trans e2)).ins, hm, ht H2 (e.trans e2) _ fun H3 e3 => by
    show sp (.ref A.s :: (us ++ [])) H3 Q E'
    rw [List.append_nil]
    exact hc H3 ((e.trans e2).trans e3) Q (fun H4 e4 => q H4 ((e2.trans e3).trans e4)) E'⟩
theorem ev_S0 {f : Stem → V} (h : Ev ta σ H (.ref A.s)) (hs : StemAt K H A s) (hm : (stF A s.top).lookup m = none) : Ev (tMeth (He.ga K "Stem") m (spS0 K f) [] E' ta tNil) σ H (f s) :=
  ev_meth h hs hm ea_nil fun H1 e Q q _ => ⟨A, s, rfl, hs.mono e, q⟩
theorem ev_S1 {C : Stem → Nat → Prop} {f : Stem → Nat → V} {x : Nat} (h : Ev ta σ H (.ref A.s)) (hs : StemAt K H A s) (hm : (stF A s.top).lookup m = none) (h1 : Ev tb σ H (.int (x : Int))) (hc : C s x) : Ev (tMeth (He.ga K "Stem") m (spS1 K C f) [] E' ta (tCons tb tNil)) σ H (f s x) :=
  ev_meth h hs hm (ea_cons h1 ea_nil) fun H1 e Q q _ => ⟨A, s, x, rfl, hs.mono e, hc, q⟩
theorem ev_S2 {C : Stem → Nat → Nat → Prop} {f : Stem → Nat → Nat → V} {a b : Nat} (h : Ev ta σ H (.ref A.s)) (hs : StemAt K H A s) (hm : (stF A s.top).lookup m = none) (h1 : Ev tb σ H (.int (a : Int))) (h2 : Ev tc σ H (.int (b : Int))) (hc : C s a b) : Ev (tMeth (He.ga K "Stem") m (spS2 K C f) [] E' ta (tCons tb (tCons tc tNil))) σ H (f s a b) :=
  ev_meth h hs hm (ea_cons h1 (ea_cons h2 ea_nil)) fun H1 e Q q _ => ⟨A, s, a, b, rfl, hs.mono e, hc, q⟩
end
/-! ## foot -/
theorem chn_len : ∀ {l : List Piece} {f : Nat}, Chn l f → 10 * l.length ≤ f
  | [], f, _ => Nat.zero_le _
  | p :: r, f, ⟨h1, ⟨_, _, h2, _⟩, h3⟩ => by
    have := chn_len h3
    rw [List.length_cons]
    omega
theorem chn_ten : ∀ {l : List Piece} {f : Nat}, Chn l f → f % 10 = 0
  | [], f, h => by
    have : f = 0 := h
    rw [this]
  | p :: r, f, ⟨h1, ⟨a, b, _, c, _⟩, h3⟩ => by omega
theorem StemOk.pieces {s : Stem} (h : StemOk s) : s.done.length ≤ 200 := by
  have := chn_len h.chn
  have := h.foot
  have := h.topLe
  omega
theorem StemOk.foot10 {s : Stem} (h : StemOk s) : s.foot % 10 = 0 := chn_ten h.chn
abbrev sp_Stem_foot (K : PySem.W.Frag) : Sp := spS0 K fun s => .int (s.foot : Int)
theorem len_Stem_foot (h : sp_Stem_foot K vs H Q E) : vs.length = 1 := spS0_len h
abbrev NL_Stem_foot : List Str := ["self", "begin", "product", "length", "over"]
theorem sc_Stem_foot : FnScope NL_Stem_foot ["self"] (defScope s_Stem_foot) := ⟨rfl, rfl, rfl, by decide +kernel, rfl, by decide +kernel, by decide +kernel⟩
def t_Stem_foot (K : PySem.W.Frag) : TS := (tSeq (tIfS (tTest (tOp rEq (tCB (rLenS K) (tCons (tFld K (tVar 0) "pieces") tNil)) (tC (.int 0)))) (tRet (tC (.int 0))) tNext)
    (tSeq (tAsg (tOp (rIxL K) (tFld K (tVar 0) "pieces") (tUn (rU fun i => .int (-i)) (tC (.int 1)))) (gTup K 4 (gCons (gName 1) (gCons (gName 2) (gCons (gName 3) (gCons (gName 4) gNil))))))
    (tRet (tOp (rI0 fun i j => .int (i + j)) (tOp (rI0 fun i j => .int (i + j)) (tVar 1) (tVar 3)) (tVar 4)))))
theorem w_Stem_foot (T : Txt K mg) (cdv : Value) (A : Around) (outer : List Env) (s : Shared) (H : Hp) (E : XK) (hr : Room 0 (A.deeper (envOfC "Stem.foot" (defScope s_Stem_foot) s.heap.objs.size (He.fAd K ("Stem", some "foot")) cdv))) :
    PSs (cxOf CX0 P w K mg base NL_Stem_foot "Stem.foot" (defScope s_Stem_foot) (He.fAd K ("Stem", some "foot")) cdv A outer s H E).nox (defBody s_Stem_foot) (t_Stem_foot K) := by
  exact (pss_cons (ps_if (pt_cmpR op_eq (pe_callB call_len_seq rfl (T.free 78 rfl) (by decide +kernel) (pa_cons (pe_fld (pv 0) rfl) pa_nil)) (by exact pe_int) (nomark _)) (pss_one (ps_ret (by exact pe_int))) pss_nil)
    (pss_cons (ps_asg (pe_ix ix_list (pe_fld (pv 0) rfl) (pe_un un_neg (by exact pe_int)) (fun _ _ => rfl)) (pg_tup rfl (pgs_cons (pg_name (i := 1) sc_Stem_foot.nd rfl (.inl rfl)) (pgs_cons (pg_name (i := 2) sc_Stem_foot.nd rfl (.inl rfl)) (pgs_cons (pg_name (i := 3) sc_Stem_foot.nd rfl (.inl rfl)) (pgs_cons (pg_name (i := 4) sc_Stem_foot.nd rfl (.inl rfl)) pgs_nil))))))
    (pss_one (ps_ret (pe_op op_add (pe_op op_add (pv 1) (pv 3)) (pv 4))))))
theorem pure_Stem_foot (T : Txt K mg) (h : sp_Stem_foot K vs H Q E) : t_Stem_foot K { nx := fun _ H' => Q .non H', rt := Q } (start NL_Stem_foot vs) H := by
  obtain ⟨A, s, rfl, hs, k⟩ := h
  have hl : A.tI.length = s.done.length := by rw [hs.piT.length, List.length_map, List.length_reverse]
  have el : Ev (tCB (rLenS K) (tCons (tFld K (tVar 0) "pieces") tNil)) (start NL_Stem_foot [.ref A.s]) H (.int (s.done.length : Int)) := ev_is (ev_len (evS_pieces T (ev_var rfl) hs) (sq_of hs.pie)) (by rw [List.length_map, hl])
  refine q_when (et_test (ev_eqi el ev_c)) (fun hb H1 e1 => s_ret ev_c fun H2 e2 => ?_) (fun hb H1 e1 => ?_)
  · have e0 : s.done = [] := List.length_eq_zero_iff.mp (by have := eq_of_beq hb; omega)
    have hf : s.foot = 0 := by
      have := hs.ok.chn
      rw [e0] at this
      exact this
    have z : V.int (s.foot : Int) = .int 0 := by rw [hf]; rfl
    show Q (.int 0) H2
    rw [← z]
    exact k H2 (e1.trans e2)
  · cases hd : s.done with
    | nil =>
      rw [hd] at hb
      cases hb
    | cons p r =>
      have hc := hs.ok.chn
      rw [hd] at hc
      have hg : (s.done.reverse.map encI)[s.done.length - 1]? = some (encI p) := by
        rw [hd, List.reverse_cons, List.map_append, List.getElem?_append_right (by simp)]
        simp
      obtain ⟨t, ht1, ht2⟩ := tups_at hs.piT hg
      have hpos : 0 < s.done.length := by rw [hd]; simp
      have ha : atI (A.tI.map V.ref) (-1) = some (.ref t) := by
        unfold atI ixN
        rw [if_neg (by decide), List.length_map, if_pos (by omega)]
        show (A.tI.map V.ref)[((-1 : Int) + (A.tI.length : Nat)).toNat]? = _
        rw [show ((-1 : Int) + (A.tI.length : Nat)).toNat = s.done.length - 1 by omega, List.getElem?_map, ht1]
        rfl
      have hs1 := hs.mono e1
      refine q_unT (σ' := [some (.ref A.s), some (.int (p.begins : Int)), some (.int (prodI p.product)), some (.int (p.long : Int)), some (.int (p.over : Int))]) (ev_ixL (evS_pieces T (ev_var rfl) hs1) (ev_neg ev_c) (sq_of hs1.pie) ha) (ex_t e1 ht2) rfl (fun H' Q q => ⟨_, _, rfl, _, _, rfl, _, _, rfl, _, _, rfl, rfl, q⟩) fun H2 e2 => ?_
      refine s_ret (ev_int (ev_add (ev_add (ev_var rfl) (ev_var rfl)) (ev_var rfl)) ?_) fun H3 e3 => k H3 ((e1.trans e2).trans e3)
      rw [hc.1, Int.natCast_add, Int.natCast_add]
theorem ok_Stem_foot (T : Txt K mg) : Good P w K mg base ("Stem", some "foot") 1 ["self"] (sp_Stem_foot K) :=
  good_mk (d := d_Stem_foot) T 23 rfl rfl rfl sc_Stem_foot (fun vs H Q E h => len_Stem_foot h) (fun _ _ _ _ _ _ us hl => match us, hl with | [_], _ => rfl) (fun cdv A outer s H E hr => w_Stem_foot T cdv A outer s H E hr) (fun vs H Q E h => pure_Stem_foot T h)
/-! ## width -/
abbrev sp_Stem_width (K : PySem.W.Frag) : Sp := spS1 K (fun s x => x % 5 = 0 ∧ x ≤ s.top) fun s x => .int ((s.diameter x : Nat) : Int)
theorem len_Stem_width (h : sp_Stem_width K vs H Q E) : vs.length = 2 := spS1_len h
abbrev NL_Stem_width : List Str := ["self", "x"]
theorem sc_Stem_width : FnScope NL_Stem_width ["self", "x"] (defScope s_Stem_width) := ⟨rfl, rfl, rfl, by decide +kernel, rfl, by decide +kernel, by decide +kernel⟩
def t_Stem_width (K : PySem.W.Frag) : TS := (tRet (tOp (rIxL K) (tFld K (tVar 0) "widths") (tOp (rI CDiv fun i j => .int (i / j)) (tVar 1) (tC (.int 5)))))
theorem w_Stem_width (T : Txt K mg) (cdv : Value) (A : Around) (outer : List Env) (s : Shared) (H : Hp) (E : XK) (hr : Room 0 (A.deeper (envOfC "Stem.width" (defScope s_Stem_width) s.heap.objs.size (He.fAd K ("Stem", some "width")) cdv))) :
    PSs (cxOf CX0 P w K mg base NL_Stem_width "Stem.width" (defScope s_Stem_width) (He.fAd K ("Stem", some "width")) cdv A outer s H E).nox (defBody s_Stem_width) (t_Stem_width K) := by
  exact (pss_one (ps_ret (pe_ix ix_list (pe_fld (pv 0) rfl) (pe_op op_fdiv (pv 1) (by exact pe_int)) (fun _ _ => rfl))))
theorem pure_Stem_width (T : Txt K mg) (h : sp_Stem_width K vs H Q E) : t_Stem_width K { nx := fun _ H' => Q .non H', rt := Q } (start NL_Stem_width vs) H := by
  obtain ⟨A, s, x, rfl, hs, ⟨h5, hx⟩, k⟩ := h
  have hg : (widthsL s)[x / 5]? = some ((s.diameter x : Nat) : Int) := by
    unfold widthsL
    rw [List.getElem?_map, List.getElem?_range (by omega)]
    show some ((s.diameter (5 * (x / 5)) : Nat) : Int) = _
    rw [show 5 * (x / 5) = x by omega]
  exact s_ret (ev_ixL (evS_widths T (ev_var rfl) hs) (ev_div (ev_var rfl) ev_c (by decide)) (sq_of hs.wid) (at_int (n := x / 5) (by omega) hg)) k
theorem ok_Stem_width (T : Txt K mg) : Good P w K mg base ("Stem", some "width") 1 ["self", "x"] (sp_Stem_width K) :=
  good_mk (d := d_Stem_width) T 24 rfl rfl rfl sc_Stem_width (fun vs H Q E h => len_Stem_width h) (fun _ _ _ _ _ _ us hl => match us, hl with | [_, _], _ => rfl) (fun cdv A outer s H E hr => w_Stem_width T cdv A outer s H E hr) (fun vs H Q E h => pure_Stem_width T h)
/-! ## worst_grade, has_rot -/
abbrev Cells (s : Stem) (a b : Nat) : Prop := a % 10 = 0 ∧ b % 10 = 0 ∧ a < b ∧ b ≤ s.top
theorem part_cut {α : Type} (f : Nat × Bool → α) {s : Stem} {a b : Nat} (h : Cells s a b) : (((s.cells.map f).drop (a / 10)).take (b / 10 - a / 10)) = (s.part a b).map f := by
  obtain ⟨h1, h2, h3, h4⟩ := h
  unfold Stem.part
  rw [List.map_take, List.map_drop, show b / 10 - a / 10 = (b - a) / 10 by omega]
theorem el_part {σ : L2.St} {tl ta tb : TE} {g : Addr} (f : Nat × Bool → Int) {s : Stem} {a b : Nat} (hc : Cells s a b) (h : Ev tl σ H (.ref g)) (hs : SqL K H g ((s.cells.map f).map V.int)) (h1 : Ev ta σ H (.int (a : Int))) (h2 : Ev tb σ H (.int (b : Int))) :
    EvL (tSl (rSlL K) tl (tPart (tOp (rI CDiv fun i j => .int (i / j)) ta (tC (.int 10)))) (tPart (tOp (rI CDiv fun i j => .int (i / j)) tb (tC (.int 10))))) σ H (((s.part a b).map f).map V.int) := by
  have z := el_sl h (eo_some (ev_int (ev_div h1 ev_c (by decide)) (show (a : Int) / 10 = ((a / 10 : Nat) : Int) by omega))) (eo_some (ev_int (ev_div h2 ev_c (by decide)) (show (b : Int) / 10 = ((b / 10 : Nat) : Int) by omega))) hs
  rw [cutV_map V.int _ _ _ (by have := hc.2.2.1; omega) (by
    rw [List.length_map]
    have : b ≤ 10 * s.cells.length := hc.2.2.2
    omega), part_cut f hc] at z
  exact z
abbrev sp_Stem_worst_grade (K : PySem.W.Frag) : Sp := spS2 K Cells fun s a b => .int ((s.grade a b : Nat) : Int)
theorem len_Stem_worst_grade (h : sp_Stem_worst_grade K vs H Q E) : vs.length = 3 := spS2_len h
abbrev NL_Stem_worst_grade : List Str := ["self", "a", "b"]
theorem sc_Stem_worst_grade : FnScope NL_Stem_worst_grade ["self", "a", "b"] (defScope s_Stem_worst_grade) := ⟨rfl, rfl, rfl, by decide +kernel, rfl, by decide +kernel, by decide +kernel⟩
def t_Stem_worst_grade (K : PySem.W.Frag) : TS := (tRet (tCB (rMax K) (tCons (tSl (rSlL K) (tFld K (tVar 0) "grades") (tPart (tOp (rI CDiv fun i j => .int (i / j)) (tVar 1) (tC (.int 10)))) (tPart (tOp (rI CDiv fun i j => .int (i / j)) (tVar 2) (tC (.int 10))))) tNil)))
theorem w_Stem_worst_grade (T : Txt K mg) (cdv : Value) (A : Around) (outer : List Env) (s : Shared) (H : Hp) (E : XK) (hr : Room 0 (A.deeper (envOfC "Stem.worst_grade" (defScope s_Stem_worst_grade) s.heap.objs.size (He.fAd K ("Stem", some "worst_grade")) cdv))) :
    PSs (cxOf CX0 P w K mg base NL_Stem_worst_grade "Stem.worst_grade" (defScope s_Stem_worst_grade) (He.fAd K ("Stem", some "worst_grade")) cdv A outer s H E).nox (defBody s_Stem_worst_grade) (t_Stem_worst_grade K) := by
  exact (pss_one (ps_ret (pe_callB (cr_max rfl) rfl (T.free 80 rfl) (by decide +kernel) (pa_cons (pe_slice sl_list (pe_fld (pv 0) rfl) (po_some (pe_op op_fdiv (pv 1) (by exact pe_int))) (po_some (pe_op op_fdiv (pv 2) (by exact pe_int)))) pa_nil))))
theorem pure_Stem_worst_grade (T : Txt K mg) (h : sp_Stem_worst_grade K vs H Q E) : t_Stem_worst_grade K { nx := fun _ H' => Q .non H', rt := Q } (start NL_Stem_worst_grade vs) H := by
  obtain ⟨A, s, a, b, rfl, hs, hc, k⟩ := h
  refine el_part (fun c => (c.1 : Int)) hc (evS_grades T (ev_var rfl) hs) (sq_of hs.gra) (ev_var rfl) (ev_var rfl) H (Ex.refl H) _ fun p H1 hp e1 h1 => ?_
  refine ⟨p, (s.part a b).map fun c => (c.1 : Int), rfl, sq_of h1, ?_, fun m hm hx => ?_⟩
  · rw [List.length_map, part_len hc.1 hc.2.1 hc.2.2.1 hc.2.2.2]
    have := hc.2.2.1
    have := hc.1
    have := hc.2.1
    omega
  · rw [grade_is hm hx]
    exact k H1 e1
theorem ok_Stem_worst_grade (T : Txt K mg) : Good P w K mg base ("Stem", some "worst_grade") 1 ["self", "a", "b"] (sp_Stem_worst_grade K) :=
  good_mk (d := d_Stem_worst_grade) T 25 rfl rfl rfl sc_Stem_worst_grade (fun vs H Q E h => len_Stem_worst_grade h) (fun _ _ _ _ _ _ us hl => match us, hl with | [_, _, _], _ => rfl) (fun cdv A outer s H E hr => w_Stem_worst_grade T cdv A outer s H E hr) (fun vs H Q E h => pure_Stem_worst_grade T h)
theorem inV_one : ∀ l : List Int, inV (.int 1) (l.map V.int) = l.any fun i => i == 1
  | [] => rfl
  | i :: r => by
    have ih := inV_one r
    unfold inV at ih ⊢
    rw [List.map_cons, List.any_cons, List.any_cons, ih]
    congr 1
theorem flat_ints : ∀ l : List Int, (l.map V.int).all flatV = true
  | [] => rfl
  | i :: r => by
    rw [List.map_cons, List.all_cons, flat_ints r]
    rfl
abbrev sp_Stem_has_rot (K : PySem.W.Frag) : Sp := spS2 K Cells fun s a b => .bl (s.rotten a b)
theorem len_Stem_has_rot (h : sp_Stem_has_rot K vs H Q E) : vs.length = 3 := spS2_len h
abbrev NL_Stem_has_rot : List Str := ["self", "a", "b"]
theorem sc_Stem_has_rot : FnScope NL_Stem_has_rot ["self", "a", "b"] (defScope s_Stem_has_rot) := ⟨rfl, rfl, rfl, by decide +kernel, rfl, by decide +kernel, by decide +kernel⟩
def t_Stem_has_rot (K : PySem.W.Frag) : TS := (tRet (tOp (rIn K false) (tC (.int 1)) (tSl (rSlL K) (tFld K (tVar 0) "rotten") (tPart (tOp (rI CDiv fun i j => .int (i / j)) (tVar 1) (tC (.int 10)))) (tPart (tOp (rI CDiv fun i j => .int (i / j)) (tVar 2) (tC (.int 10)))))))
theorem w_Stem_has_rot (T : Txt K mg) (cdv : Value) (A : Around) (outer : List Env) (s : Shared) (H : Hp) (E : XK) (hr : Room 0 (A.deeper (envOfC "Stem.has_rot" (defScope s_Stem_has_rot) s.heap.objs.size (He.fAd K ("Stem", some "has_rot")) cdv))) :
    PSs (cxOf CX0 P w K mg base NL_Stem_has_rot "Stem.has_rot" (defScope s_Stem_has_rot) (He.fAd K ("Stem", some "has_rot")) cdv A outer s H E).nox (defBody s_Stem_has_rot) (t_Stem_has_rot K) := by
  exact (pss_one (ps_ret (pe_cmpR op_in_seq (by exact pe_int) (pe_slice sl_list (pe_fld (pv 0) rfl) (po_some (pe_op op_fdiv (pv 1) (by exact pe_int))) (po_some (pe_op op_fdiv (pv 2) (by exact pe_int)))) rfl)))
theorem pure_Stem_has_rot (T : Txt K mg) (h : sp_Stem_has_rot K vs H Q E) : t_Stem_has_rot K { nx := fun _ H' => Q .non H', rt := Q } (start NL_Stem_has_rot vs) H := by
  obtain ⟨A, s, a, b, rfl, hs, hc, k⟩ := h
  refine s_ret (ev_bl (ev_opL (r := rIn K false) (xs := ((s.part a b).map fun c => if c.2 = true then (1 : Int) else 0).map V.int) ev_c (el_part (fun c => if c.2 = true then (1 : Int) else 0) hc (evS_rotten T (ev_var rfl) hs) (sq_of hs.rot) (ev_var rfl) (ev_var rfl)) fun p H1 hp e1 => rv_isL (sq_of hp) rfl (flat_ints _)) ?_) k
  rw [inV_one, List.any_map]
  unfold Stem.rotten
  congr 1
  funext c
  cases h : c.2 <;> simp [h]
theorem ok_Stem_has_rot (T : Txt K mg) : Good P w K mg base ("Stem", some "has_rot") 1 ["self", "a", "b"] (sp_Stem_has_rot K) :=
  good_mk (d := d_Stem_has_rot) T 26 rfl rfl rfl sc_Stem_has_rot (fun vs H Q E h => len_Stem_has_rot h) (fun _ _ _ _ _ _ us hl => match us, hl with | [_, _, _], _ => rfl) (fun cdv A outer s H E hr => w_Stem_has_rot T cdv A outer s H E hr) (fun vs H Q E h => pure_Stem_has_rot T h)
/-! ## cells_parts -/
theorem total_sum : ∀ l : List Nat, (l.map fun (n : Nat) => (n : Int)).sum = ((TimBase.total l : Nat) : Int)
  | [] => rfl
  | n :: r => by
    rw [List.map_cons, List.sum_cons, total_sum r]
    show _ = ((n + TimBase.total r : Nat) : Int)
    rw [Int.natCast_add]
abbrev sp_Stem_cells_parts (K : PySem.W.Frag) : Sp := spS2 K (fun s a b => a % 10 = 0 ∧ b % 10 = 0 ∧ a ≤ b ∧ b ≤ s.top) fun s a b => .int ((TimBuck.cellsParts s a b : Nat) : Int)
theorem len_Stem_cells_parts (h : sp_Stem_cells_parts K vs H Q E) : vs.length = 3 := spS2_len h
abbrev NL_Stem_cells_parts : List Str := ["self", "a", "b", "x"]
theorem sc_Stem_cells_parts : FnScope NL_Stem_cells_parts ["self", "a", "b"] (defScope s_Stem_cells_parts) := ⟨rfl, rfl, rfl, by decide +kernel, rfl, by decide +kernel, by decide +kernel⟩
def t_Stem_cells_parts (K : PySem.W.Frag) : TS := (tRet (tCB (rSum K) (tCons (tLc (iRng3 (tCons (tVar 1) (tCons (tVar 2) (tCons (tC (.int 10)) tNil)))) (gName 3) tYes (tCall (sp_parts_of K) [] E0 (tCons (tMeth (He.ga K "Stem") "width" (sp_Stem_width K) [] E0 (tVar 0) (tCons (tOp (rI0 fun i j => .int (i + j)) (tVar 3) (tC (.int 5))) tNil)) (tCons (tC (.int 10)) tNil))) [3]) tNil)))
theorem w_Stem_cells_parts (T : Txt K mg) (cdv : Value) (A : Around) (outer : List Env) (s : Shared) (H : Hp) (E : XK) (hr : Room 1 (A.deeper (envOfC "Stem.cells_parts" (defScope s_Stem_cells_parts) s.heap.objs.size (He.fAd K ("Stem", some "cells_parts")) cdv))) :
    PSs (cxOf CX0 P w K mg base NL_Stem_cells_parts "Stem.cells_parts" (defScope s_Stem_cells_parts) (He.fAd K ("Stem", some "cells_parts")) cdv A outer s H E).nox (defBody s_Stem_cells_parts) (t_Stem_cells_parts K) := by
  exact (pss_one (ps_ret (pe_callB (cr_sum rfl) rfl (T.free 82 rfl) (by decide +kernel) (pa_cons (pe_lc (own := [("x", 3)]) (g := gName 3) (tt := tYes) rfl sc_Stem_cells_parts.nd (pi_range3 rfl (T.free 79 rfl) (pa_cons (pv 1) (pa_cons (pv 2) (pa_cons (by exact pe_int) pa_nil)))) (blkOk_by (own := [("x", 3)]) (N := NL_Stem_cells_parts) (sc := (defScope s_Stem_cells_parts)) (by decide +kernel)) (fun _ _ _ _ _ => pg_name (i := 3) sc_Stem_cells_parts.nd rfl (.inl rfl)) (fun _ _ _ _ _ => pts_nil) (fun _ _ _ _ _ => (pe_callG (ok_parts_of T) (hr.mono (by decide)) rfl (T.glo 21 rfl) (pa_cons (pe_methG (pv 0) (T.cls 101 rfl) (T.meth 111 rfl) (ok_Stem_width T) (hr.mono (by decide)) (pa_cons (pe_op op_add (pv 3) (by exact pe_int)) pa_nil)) (pa_cons (by exact pe_int) pa_nil))))) pa_nil))))
theorem pure_Stem_cells_parts (T : Txt K mg) (h : sp_Stem_cells_parts K vs H Q E) : t_Stem_cells_parts K { nx := fun _ H' => Q .non H', rt := Q } (start NL_Stem_cells_parts vs) H := by
  obtain ⟨A, s, a, b, rfl, hs, ⟨h1, h2, h3, h4⟩, k⟩ := h
  have ht := hs.ok.topLe
  have z : EvL _ (start NL_Stem_cells_parts [.ref A.s, .int (a : Int), .int (b : Int)]) H ((List.range ((b - a) / 10)).map fun i => V.int ((TimBase.parts (s.diameter (a + 10 * i + 5)) 10 : Nat) : Int)) :=
    el_mapC (ta := tCons (tVar 1) (tCons (tVar 2) (tCons (tC (.int 10)) tNil))) (lo := (a : Int)) (hi := (b : Int)) (c := 10) (j := 3) (vs := [3]) (te := (tCall (sp_parts_of K) [] E0 (tCons (tMeth (He.ga K "Stem") "width" (sp_Stem_width K) [] E0 (tVar 0) (tCons (tOp (rI0 fun i j => .int (i + j)) (tVar 3) (tC (.int 5))) tNil)) (tCons (tC (.int 10)) tNil)))) _ (ea_cons (ev_var rfl) (ea_cons (ev_var rfl) (ea_cons ev_c ea_nil))) (RgC_up' (by omega) (by omega) (by omega) (by omega) (by decide) (by decide) (by split <;> omega)) (by omega) (fun _ => rfl) fun i hi => ev_parts_of (ev_S1 (x := a + 10 * i + 5) (ev_var rfl) hs (stF_no (by decide +kernel)) (ev_int (ev_add (ev_var rfl) ev_c) (by omega)) ⟨by omega, by omega⟩) ev_c (hs.ok.dia (by omega)) (by decide)
  have e : (List.range ((b - a) / 10)).map (fun i => V.int ((TimBase.parts (s.diameter (a + 10 * i + 5)) 10 : Nat) : Int)) = (((List.range ((b - a) / 10)).map fun i => TimBase.parts (s.diameter (a + 10 * i + 5)) 10).map fun (n : Nat) => (n : Int)).map V.int := by
    rw [List.map_map, List.map_map]
    rfl
  rw [e] at z
  refine s_ret (ev_int (ev_sum z) (total_sum _)) k
theorem ok_Stem_cells_parts (T : Txt K mg) : Good P w K mg base ("Stem", some "cells_parts") 2 ["self", "a", "b"] (sp_Stem_cells_parts K) :=
  good_mk (d := d_Stem_cells_parts) T 27 rfl rfl rfl sc_Stem_cells_parts (fun vs H Q E h => len_Stem_cells_parts h) (fun _ _ _ _ _ _ us hl => match us, hl with | [_, _, _], _ => rfl) (fun cdv A outer s H E hr => w_Stem_cells_parts T cdv A outer s H E hr) (fun vs H Q E h => pure_Stem_cells_parts T h)
end
end Sb
end
section
set_option maxHeartbeats 4000000
namespace Sb
open PySem PySem.Spec PySem.Calls PyProof.Rows L2 Evl
open TimBuck (Stem Product Piece diameterIn)
theorem But.tups {K : PySem.W.Frag} {H H' : Hp} {a : Addr} {zs : List V} (b : But a H H') (ha : H a = some (.lst zs)) {ts : List Addr} {ks : List (List Int)} (h : Tups K H ts ks) : Tups K H' ts ks :=
  Paired.mapP h fun _ _ z => sqT_but ha z b
theorem But.refl (a : Addr) (H : Hp) : But a H H := fun _ _ _ h => h
theorem But.upd {a : Addr} {H H' : Hp} {o : HO} (b : But a H H') : But a H (upd H' a o) := fun c u hc h => by
  rw [upd_ne hc]
  exact b c u hc h
theorem But.ex {a : Addr} {H H' H2 : Hp} (b : But a H H') (e : Ex H' H2) : But a H H2 := fun c u hc h => e c u (b c u hc h)
/-- the five kinds of distinctness of a stem's lists -/
theorem StA.ne {A : StA} (h : A.lists.Nodup) : (A.aP ≠ A.aG ∧ A.aP ≠ A.aR ∧ A.aP ≠ A.aC ∧ A.aP ≠ A.aI) ∧ (A.aW ≠ A.aG ∧ A.aW ≠ A.aR ∧ A.aW ≠ A.aC ∧ A.aW ≠ A.aI) ∧ (A.aG ≠ A.aR ∧ A.aG ≠ A.aC ∧ A.aG ≠ A.aI) ∧ (A.aR ≠ A.aC ∧ A.aR ≠ A.aI) ∧ A.aC ≠ A.aI := by
  unfold StA.lists at h
  simp only [List.nodup_cons, List.mem_cons, List.not_mem_nil, or_false, not_or, List.nodup_nil, and_true] at h
  obtain ⟨⟨h1, h2, h3, h4, h5⟩, ⟨h6, h7, h8, h9⟩, ⟨h10, h11, h12⟩, ⟨h13, h14⟩, h15, _⟩ := h
  exact ⟨⟨h2, h3, h4, h5⟩, ⟨h6, h7, h8, h9⟩, ⟨h10, h11, h12⟩, ⟨h13, h14⟩, h15⟩
/-! ## a stem whose grades, rot, crooks, pieces changed -/
theorem StemAt.set_gra {K : PySem.W.Frag} {H H' : Hp} {A : StA} {s s' : Stem} (h : StemAt K H A s) (b : But A.aG H H') (hg : H' A.aG = some (.lst ((gradesL s').map V.int))) (e : s' = { s with cells := s'.cells }) (el : s'.cells.length = s.cells.length)
    (er : rottenL s' = rottenL s) (ok : StemOk s') : StemAt K H' A s' := by
  have ni : ∀ {c : Addr} {o : HO}, H c = some o → o ≠ .lst ((gradesL s).map V.int) → c ≠ A.aG := fun q z => ne_of q h.gra z
  obtain ⟨n1, n2, n3, n4, n5⟩ := StA.ne h.nd
  have top : s'.top = s.top := by
    show 10 * s'.cells.length = 10 * s.cells.length
    rw [el]
  have pts : s'.points = s.points := by rw [e]
  have wid : widthsL s' = widthsL s := by
    unfold widthsL Stem.diameter
    rw [top, pts]
  refine ⟨?_, b _ _ n1.1 h.pts, ?_, ?_, hg, ?_, b _ _ (Ne.symm n3.2.1) h.cro, ?_, b _ _ (Ne.symm n3.2.2) h.pie, ?_, h.nd, ok⟩
  · rw [top]
    exact b _ _ (ni h.ins (by intro z; cases z)) h.ins
  · rw [pts]
    exact b.tups h.gra h.ptT
  · rw [wid]
    exact b _ _ n2.1 h.wid
  · rw [er]
    exact b _ _ (Ne.symm n3.1) h.rot
  · rw [show s'.crooks = s.crooks by rw [e]]
    exact b.tups h.gra h.crT
  · rw [show s'.done = s.done by rw [e]]
    exact b.tups h.gra h.piT
theorem StemAt.set_rot {K : PySem.W.Frag} {H H' : Hp} {A : StA} {s s' : Stem} (h : StemAt K H A s) (b : But A.aR H H') (hg : H' A.aR = some (.lst ((rottenL s').map V.int))) (e : s' = { s with cells := s'.cells }) (el : s'.cells.length = s.cells.length)
    (er : gradesL s' = gradesL s) (ok : StemOk s') : StemAt K H' A s' := by
  have ni : ∀ {c : Addr} {o : HO}, H c = some o → o ≠ .lst ((rottenL s).map V.int) → c ≠ A.aR := fun q z => ne_of q h.rot z
  obtain ⟨n1, n2, n3, n4, n5⟩ := StA.ne h.nd
  have top : s'.top = s.top := by
    show 10 * s'.cells.length = 10 * s.cells.length
    rw [el]
  have pts : s'.points = s.points := by rw [e]
  have wid : widthsL s' = widthsL s := by
    unfold widthsL Stem.diameter
    rw [top, pts]
  refine ⟨?_, b _ _ n1.2.1 h.pts, ?_, ?_, ?_, hg, b _ _ (Ne.symm n4.1) h.cro, ?_, b _ _ (Ne.symm n4.2) h.pie, ?_, h.nd, ok⟩
  · rw [top]
    exact b _ _ (ni h.ins (by intro z; cases z)) h.ins
  · rw [pts]
    exact b.tups h.rot h.ptT
  · rw [wid]
    exact b _ _ n2.2.1 h.wid
  · rw [er]
    exact b _ _ n3.1 h.gra
  · rw [show s'.crooks = s.crooks by rw [e]]
    exact b.tups h.rot h.crT
  · rw [show s'.done = s.done by rw [e]]
    exact b.tups h.rot h.piT
theorem StemAt.set_cro {K : PySem.W.Frag} {H H' : Hp} {A : StA} {s s' : Stem} {tC : List Addr} (h : StemAt K H A s) (b : But A.aC H H') (hg : H' A.aC = some (.lst (tC.map V.ref))) (ht : Tups K H' tC (s'.crooks.map encP)) (e : s' = { s with crooks := s'.crooks })
    (ok : StemOk s') : StemAt K H' { A with tC := tC } s' := by
  have ni : ∀ {c : Addr} {o : HO}, H c = some o → o ≠ .lst (A.tC.map V.ref) → c ≠ A.aC := fun q z => ne_of q h.cro z
  obtain ⟨n1, n2, n3, n4, n5⟩ := StA.ne h.nd
  have cel : s'.cells = s.cells := by rw [e]
  have top : s'.top = s.top := by
    show 10 * s'.cells.length = 10 * s.cells.length
    rw [cel]
  have pts : s'.points = s.points := by rw [e]
  have wid : widthsL s' = widthsL s := by
    unfold widthsL Stem.diameter
    rw [top, pts]
  refine ⟨?_, b _ _ n1.2.2.1 h.pts, ?_, ?_, ?_, ?_, hg, ht, b _ _ (Ne.symm n5) h.pie, ?_, h.nd, ok⟩
  · rw [top]
    exact b _ _ (ni h.ins (by intro z; cases z)) h.ins
  · rw [pts]
    exact b.tups h.cro h.ptT
  · rw [wid]
    exact b _ _ n2.2.2.1 h.wid
  · rw [show gradesL s' = gradesL s by unfold gradesL; rw [cel]]
    exact b _ _ n3.2.1 h.gra
  · rw [show rottenL s' = rottenL s by unfold rottenL; rw [cel]]
    exact b _ _ n4.1 h.rot
  · rw [show s'.done = s.done by rw [e]]
    exact b.tups h.cro h.piT
theorem StemAt.set_pie {K : PySem.W.Frag} {H H' : Hp} {A : StA} {s s' : Stem} {tI : List Addr} (h : StemAt K H A s) (b : But A.aI H H') (hg : H' A.aI = some (.lst (tI.map V.ref))) (ht : Tups K H' tI (s'.done.reverse.map encI)) (e : s' = { s with foot := s'.foot, done := s'.done })
    (ok : StemOk s') : StemAt K H' { A with tI := tI } s' := by
  have ni : ∀ {c : Addr} {o : HO}, H c = some o → o ≠ .lst (A.tI.map V.ref) → c ≠ A.aI := fun q z => ne_of q h.pie z
  obtain ⟨n1, n2, n3, n4, n5⟩ := StA.ne h.nd
  have cel : s'.cells = s.cells := by rw [e]
  have top : s'.top = s.top := by
    show 10 * s'.cells.length = 10 * s.cells.length
    rw [cel]
  have pts : s'.points = s.points := by rw [e]
  have wid : widthsL s' = widthsL s := by
    unfold widthsL Stem.diameter
    rw [top, pts]
  refine ⟨?_, b _ _ n1.2.2.2 h.pts, ?_, ?_, ?_, ?_, b _ _ n5 h.cro, ?_, hg, ht, h.nd, ok⟩
  · rw [top]
    exact b _ _ (ni h.ins (by intro z; cases z)) h.ins
  · rw [pts]
    exact b.tups h.pie h.ptT
  · rw [wid]
    exact b _ _ n2.2.2.2 h.wid
  · rw [show gradesL s' = gradesL s by unfold gradesL; rw [cel]]
    exact b _ _ n3.2.2 h.gra
  · rw [show rottenL s' = rottenL s by unfold rottenL; rw [cel]]
    exact b _ _ n4.2 h.rot
  · rw [show s'.crooks = s.crooks by rw [e]]
    exact b.tups h.pie h.crT
/-! ## the cells' lists, place by place -/
/-- a list with y from place a on, n places -/
def fill {α : Type} (l : List α) (y : α) (a n : Nat) : List α := l.zipIdx.map fun p => if a ≤ p.2 ∧ p.2 < a + n then y else p.1
theorem fill_len {α : Type} (l : List α) (y : α) (a n : Nat) : (fill l y a n).length = l.length := by
  unfold fill
  rw [List.length_map, List.length_zipIdx]
theorem fill_get {α : Type} (l : List α) (y : α) (a n i : Nat) (h : i < l.length) : (fill l y a n)[i]? = some (if a ≤ i ∧ i < a + n then y else l[i]) := by
  unfold fill
  rw [List.getElem?_map, List.getElem?_zipIdx, List.getElem?_eq_getElem h]
  show some (if a ≤ 0 + i ∧ 0 + i < a + n then y else l[i]) = _
  rw [Nat.zero_add]
theorem fill_zero {α : Type} (l : List α) (y : α) (a : Nat) : fill l y a 0 = l := by
  apply List.ext_getElem?
  intro i
  by_cases h : i < l.length
  · rw [fill_get l y a 0 i h, if_neg (by omega), List.getElem?_eq_getElem h]
  · rw [List.getElem?_eq_none (by rw [fill_len]; omega), List.getElem?_eq_none (by omega)]
theorem fill_succ {α : Type} (l : List α) (y : α) (a n : Nat) (h : a + n < l.length) : (fill l y a n).set (a + n) y = fill l y a (n + 1) := by
  apply List.ext_getElem?
  intro i
  by_cases hi : i < l.length
  · rw [fill_get l y a (n + 1) i hi, List.getElem?_set]
    by_cases c : a + n = i
    · rw [if_pos c, if_pos (by rw [fill_len]; omega), if_pos (by omega)]
    · rw [if_neg c, fill_get l y a n i hi]
      by_cases c2 : a ≤ i ∧ i < a + n
      · rw [if_pos c2, if_pos (by omega)]
      · rw [if_neg c2, if_neg (by omega)]
  · rw [List.getElem?_eq_none (by rw [List.length_set, fill_len]; omega), List.getElem?_eq_none (by rw [fill_len]; omega)]
theorem change_len {s : Stem} {a b : Nat} {f : Nat × Bool → Nat × Bool} : (s.change a b f).cells.length = s.cells.length := by
  show (s.cells.zipIdx.map _).length = _
  rw [List.length_map, List.length_zipIdx]
theorem change_get {s : Stem} {a b : Nat} {f : Nat × Bool → Nat × Bool} {i : Nat} (h : i < s.cells.length) : (s.change a b f).cells[i]? = some (if a ≤ 10 * i ∧ 10 * i < b then f s.cells[i] else s.cells[i]) := by
  show (s.cells.zipIdx.map _)[i]? = _
  rw [List.getElem?_map, List.getElem?_zipIdx, List.getElem?_eq_getElem h]
  show some (if a ≤ 10 * (0 + i) ∧ 10 * (0 + i) < b then f s.cells[i] else s.cells[i]) = _
  rw [Nat.zero_add]
theorem map_change {α : Type} {s : Stem} {a b : Nat} {f : Nat × Bool → Nat × Bool} {g : Nat × Bool → α} {y : α} (ha : a % 10 = 0) (hb : b % 10 = 0) (hab : a < b) (hy : ∀ c, g (f c) = y) : (s.change a b f).cells.map g = fill (s.cells.map g) y (a / 10) (b / 10 - a / 10) := by
  apply List.ext_getElem?
  intro i
  by_cases h : i < s.cells.length
  · rw [List.getElem?_map, change_get h, fill_get _ _ _ _ _ (by rw [List.length_map]; exact h)]
    by_cases c : a ≤ 10 * i ∧ 10 * i < b
    · rw [if_pos c, if_pos (by omega)]
      show some (g (f s.cells[i])) = _
      rw [hy]
    · rw [if_neg c, if_neg (by omega), List.getElem_map]
      rfl
  · rw [List.getElem?_eq_none (by rw [List.length_map, change_len]; omega), List.getElem?_eq_none (by rw [fill_len, List.length_map]; omega)]
theorem map_same {α : Type} {s : Stem} {a b : Nat} {f : Nat × Bool → Nat × Bool} {g : Nat × Bool → α} (hy : ∀ c, g (f c) = g c) : (s.change a b f).cells.map g = s.cells.map g := by
  apply List.ext_getElem?
  intro i
  by_cases h : i < s.cells.length
  · rw [List.getElem?_map, change_get h, List.getElem?_map, List.getElem?_eq_getElem h]
    split
    · show some (g (f s.cells[i])) = _
      rw [hy]
      rfl
    · rfl
  · rw [List.getElem?_eq_none (by rw [List.length_map, change_len]; omega), List.getElem?_eq_none (by rw [List.length_map]; omega)]
theorem StemOk.change {s : Stem} (h : StemOk s) {a b : Nat} {f : Nat × Bool → Nat × Bool} (hf : ∀ c, c.1 ≤ 9 → (f c).1 ≤ 9) : StemOk (s.change a b f) := by
  have top : (s.change a b f).top = s.top := by
    show 10 * (s.change a b f).cells.length = 10 * s.cells.length
    rw [change_len]
  refine ⟨h.pts, by rw [change_len]; exact h.len, fun c hc => ?_, by rw [top]; exact h.foot, h.chn, h.crk⟩
  obtain ⟨i, hi⟩ := List.getElem?_of_mem hc
  have hl : i < s.cells.length := by
    have := (List.getElem?_eq_some_iff.mp hi).1
    rw [change_len] at this
    exact this
  rw [change_get hl] at hi
  have e := Option.some.inj hi
  have z := h.gr s.cells[i] (List.getElem_mem hl)
  rw [← e]
  split
  · exact hf _ z
  · exact z
section
variable {P : Program} {w : World} {K : PySem.W.Frag} {mg : Str → Option Value} {base : Heap} {vs : List V} {H : Hp} {Q : VK} {E : XK}
/-- a loop that writes one value from place to place -/
theorem fill_loop {σ0 : L2.St} {D : Ends} {te to ta tb : TE} {l : Addr} {ns : List Int} {y : Int} {a b : Nat} {j : Nat} (hl : H l = some (.lst (ns.map V.int))) (ha : Ev ta σ0 H (.int (a : Int))) (hb : Ev tb σ0 H (.int (b : Int))) (hab : a ≤ b) (hbn : b ≤ ns.length) (hn : b ≤ 1000)
    (he : ∀ x H', But l H H' → Ev te (σ0.set j x) H' (.int y)) (ho : ∀ x H', But l H H' → Ev to (σ0.set j x) H' (.ref l)) (hj : ∀ x, (σ0.set j (some x))[j]? = some (some x))
    (k : ∀ x H', But l H H' → H' l = some (.lst ((fill ns y a (b - a)).map V.int)) → D.nx x H') :
    tFor (iRng2 (tCons ta (tCons tb tNil))) (gName j) (tAsg te (gSub to (tVar j) rSetL)) D σ0 H := by
  refine s_forR2 (lo := (a : Int)) (n := (b : Int)) (ea_cons ha (ea_cons hb ea_nil)) (by omega) (fun i σ' H' => (∃ x, σ' = σ0.set j x ∨ (i = 0 ∧ σ' = σ0)) ∧ But l H H' ∧ H' l = some (.lst ((fill ns y a i).map V.int))) (fun H1 e => ⟨⟨none, .inr ⟨rfl, rfl⟩⟩, (But.refl l H).ex e, by rw [fill_zero]; exact e _ _ hl⟩) ?_ ?_
  · rintro i σ' H' hi ⟨⟨x, hx⟩, bt, h1⟩
    have hs : σ'.set j (some (.int ((a : Int) + (i : Int)))) = σ0.set j (some (.int ((a : Int) + (i : Int)))) := by
      rcases hx with rfl | ⟨_, rfl⟩
      · rw [List.set_set]
      · rfl
    rw [hs]
    refine s_setL (l := l) (xs := (fill ns y a i).map V.int) (j := a + i) h1 (he _ H' bt) (ho _ H' bt) (ev_int (ev_var (hj _)) (by omega)) (by rw [List.length_map, fill_len]; omega) fun H1 e1 => ?_
    refine ⟨⟨_, .inl rfl⟩, (bt.ex e1).upd, ?_⟩
    rw [← List.map_set, fill_succ _ _ _ _ (by omega)]
    exact upd_same
  · rintro σ' H' ⟨_, bt, h1⟩
    have e : ((b : Int) - (a : Int)).toNat = b - a := by omega
    rw [e] at h1
    exact k σ' H' bt h1
def sp_Stem_put_grade (K : PySem.W.Frag) : Sp := fun vs H Q _ => ∃ (A : StA) (s : Stem) (a b g : Nat), vs = [.ref A.s, .int (a : Int), .int (b : Int), .int (g : Int)] ∧ StemAt K H A s ∧ Cells s a b ∧ g ≤ 9 ∧
  ∀ H', StemAt K H' A (s.change a b fun c => (g, c.2)) → But A.aG H H' → Q .non H'
theorem len_Stem_put_grade (h : sp_Stem_put_grade K vs H Q E) : vs.length = 4 := by
  obtain ⟨A, s, a, b, g, rfl, _⟩ := h
  rfl
abbrev NL_Stem_put_grade : List Str := ["self", "a", "b", "grade", "cell"]
theorem sc_Stem_put_grade : FnScope NL_Stem_put_grade ["self", "a", "b", "grade"] (defScope s_Stem_put_grade) := ⟨rfl, rfl, rfl, by decide +kernel, rfl, by decide +kernel, by decide +kernel⟩
def t_Stem_put_grade (K : PySem.W.Frag) : TS := (tFor (iRng2 (tCons (tOp (rI CDiv fun i j => .int (i / j)) (tVar 1) (tC (.int 10))) (tCons (tOp (rI CDiv fun i j => .int (i / j)) (tVar 2) (tC (.int 10))) tNil))) (gName 4) (tAsg (tVar 3) (gSub (tFld K (tVar 0) "grades") (tVar 4) rSetL)))
theorem w_Stem_put_grade (T : Txt K mg) (cdv : Value) (A : Around) (outer : List Env) (s : Shared) (H : Hp) (E : XK) (hr : Room 0 (A.deeper (envOfC "Stem.put_grade" (defScope s_Stem_put_grade) s.heap.objs.size (He.fAd K ("Stem", some "put_grade")) cdv))) :
    PSs (cxOf CX0 P w K mg base NL_Stem_put_grade "Stem.put_grade" (defScope s_Stem_put_grade) (He.fAd K ("Stem", some "put_grade")) cdv A outer s H E).nox (defBody s_Stem_put_grade) (t_Stem_put_grade K) := by
  exact (pss_one (ps_for PassesOwn.never rfl (pi_range2 rfl (T.free 79 rfl) (pa_cons (pe_op op_fdiv (pv 1) (by exact pe_int)) (pa_cons (pe_op op_fdiv (pv 2) (by exact pe_int)) pa_nil))) (pg_name (i := 4) sc_Stem_put_grade.nd rfl (.inl rfl)) (pss_one (ps_asg (pv 3) (pg_sub (pe_fld (pv 0) rfl) (pv 4) set_list)))))
theorem pure_Stem_put_grade (T : Txt K mg) (h : sp_Stem_put_grade K vs H Q E) : t_Stem_put_grade K { nx := fun _ H' => Q .non H', rt := Q } (start NL_Stem_put_grade vs) H := by
  obtain ⟨A, s, a, b, g, rfl, hs, hc, hg, k⟩ := h
  have ht := hs.ok.topLe
  obtain ⟨c1, c2, c3, c4⟩ := id hc
  have hcl : b ≤ 10 * s.cells.length := c4
  have insK : ∀ H', But A.aG H H' → H' A.s = some (.ins (He.ga K "Stem") A.dx (stF A s.top)) := fun H' bt => bt _ _ (ne_of hs.ins hs.gra (by intro z; cases z)) hs.ins
  refine fill_loop (l := A.aG) (ns := gradesL s) (y := (g : Int)) (a := a / 10) (b := b / 10) (j := 4) hs.gra (ev_int (ev_div (ev_var rfl) ev_c (by decide)) (by omega)) (ev_int (ev_div (ev_var rfl) ev_c (by decide)) (by omega)) (by omega) (by unfold gradesL; rw [List.length_map]; omega) (by omega)
    (fun x H' bt => ev_var rfl) (fun x H' bt => ev_fld (ev_var rfl) (insK H' bt) (T.cls 101 rfl) (T.noat 106 rfl) stF_grades) (fun x => rfl) fun σ' H' bt h1 => ?_
  refine k H' (hs.set_gra bt ?_ rfl change_len (by unfold rottenL; exact map_same fun c => rfl) (hs.ok.change fun c _ => hg)) bt
  unfold gradesL
  rw [map_change (y := (g : Int)) c1 c2 c3 fun c => rfl]
  exact h1
theorem ok_Stem_put_grade (T : Txt K mg) : Good P w K mg base ("Stem", some "put_grade") 1 ["self", "a", "b", "grade"] (sp_Stem_put_grade K) :=
  good_mk (d := d_Stem_put_grade) T 28 rfl rfl rfl sc_Stem_put_grade (fun vs H Q E h => len_Stem_put_grade h) (fun _ _ _ _ _ _ us hl => match us, hl with | [_, _, _, _], _ => rfl) (fun cdv A outer s H E hr => w_Stem_put_grade T cdv A outer s H E hr) (fun vs H Q E h => pure_Stem_put_grade T h)
def sp_Stem_put_rot (K : PySem.W.Frag) : Sp := fun vs H Q _ => ∃ (A : StA) (s : Stem) (a b : Nat), vs = [.ref A.s, .int (a : Int), .int (b : Int)] ∧ StemAt K H A s ∧ Cells s a b ∧
  ∀ H', StemAt K H' A (s.change a b fun c => (c.1, true)) → But A.aR H H' → Q .non H'
theorem len_Stem_put_rot (h : sp_Stem_put_rot K vs H Q E) : vs.length = 3 := by
  obtain ⟨A, s, a, b, rfl, _⟩ := h
  rfl
abbrev NL_Stem_put_rot : List Str := ["self", "a", "b", "cell"]
theorem sc_Stem_put_rot : FnScope NL_Stem_put_rot ["self", "a", "b"] (defScope s_Stem_put_rot) := ⟨rfl, rfl, rfl, by decide +kernel, rfl, by decide +kernel, by decide +kernel⟩
def t_Stem_put_rot (K : PySem.W.Frag) : TS := (tFor (iRng2 (tCons (tOp (rI CDiv fun i j => .int (i / j)) (tVar 1) (tC (.int 10))) (tCons (tOp (rI CDiv fun i j => .int (i / j)) (tVar 2) (tC (.int 10))) tNil))) (gName 3) (tAsg (tC (.int 1)) (gSub (tFld K (tVar 0) "rotten") (tVar 3) rSetL)))
theorem w_Stem_put_rot (T : Txt K mg) (cdv : Value) (A : Around) (outer : List Env) (s : Shared) (H : Hp) (E : XK) (hr : Room 0 (A.deeper (envOfC "Stem.put_rot" (defScope s_Stem_put_rot) s.heap.objs.size (He.fAd K ("Stem", some "put_rot")) cdv))) :
    PSs (cxOf CX0 P w K mg base NL_Stem_put_rot "Stem.put_rot" (defScope s_Stem_put_rot) (He.fAd K ("Stem", some "put_rot")) cdv A outer s H E).nox (defBody s_Stem_put_rot) (t_Stem_put_rot K) := by
  exact (pss_one (ps_for PassesOwn.never rfl (pi_range2 rfl (T.free 79 rfl) (pa_cons (pe_op op_fdiv (pv 1) (by exact pe_int)) (pa_cons (pe_op op_fdiv (pv 2) (by exact pe_int)) pa_nil))) (pg_name (i := 3) sc_Stem_put_rot.nd rfl (.inl rfl)) (pss_one (ps_asg (by exact pe_int) (pg_sub (pe_fld (pv 0) rfl) (pv 3) set_list)))))
theorem pure_Stem_put_rot (T : Txt K mg) (h : sp_Stem_put_rot K vs H Q E) : t_Stem_put_rot K { nx := fun _ H' => Q .non H', rt := Q } (start NL_Stem_put_rot vs) H := by
  obtain ⟨A, s, a, b, rfl, hs, hc, k⟩ := h
  have ht := hs.ok.topLe
  obtain ⟨c1, c2, c3, c4⟩ := id hc
  have hcl : b ≤ 10 * s.cells.length := c4
  have insK : ∀ H', But A.aR H H' → H' A.s = some (.ins (He.ga K "Stem") A.dx (stF A s.top)) := fun H' bt => bt _ _ (ne_of hs.ins hs.rot (by intro z; cases z)) hs.ins
  refine fill_loop (l := A.aR) (ns := rottenL s) (y := 1) (a := a / 10) (b := b / 10) (j := 3) hs.rot (ev_int (ev_div (ev_var rfl) ev_c (by decide)) (by omega)) (ev_int (ev_div (ev_var rfl) ev_c (by decide)) (by omega)) (by omega) (by unfold rottenL; rw [List.length_map]; omega) (by omega)
    (fun x H' bt => ev_c) (fun x H' bt => ev_fld (ev_var rfl) (insK H' bt) (T.cls 101 rfl) (T.noat 107 rfl) stF_rotten) (fun x => rfl) fun σ' H' bt h1 => ?_
  refine k H' (hs.set_rot bt ?_ rfl change_len (by unfold gradesL; exact map_same fun c => rfl) (hs.ok.change fun c h => h)) bt
  unfold rottenL
  rw [map_change (y := (1 : Int)) c1 c2 c3 fun c => rfl]
  exact h1
theorem ok_Stem_put_rot (T : Txt K mg) : Good P w K mg base ("Stem", some "put_rot") 1 ["self", "a", "b"] (sp_Stem_put_rot K) :=
  good_mk (d := d_Stem_put_rot) T 29 rfl rfl rfl sc_Stem_put_rot (fun vs H Q E h => len_Stem_put_rot h) (fun _ _ _ _ _ _ us hl => match us, hl with | [_, _, _], _ => rfl) (fun cdv A outer s H E hr => w_Stem_put_rot T cdv A outer s H E hr) (fun vs H Q E h => pure_Stem_put_rot T h)
end
end Sb
end
section
set_option maxHeartbeats 4000000
namespace Sb
open PySem PySem.Spec PySem.Calls PyProof.Rows L2 Evl
open TimBuck (Stem Product Piece diameterIn)
theorem paired_snoc {α β : Type} {F : α → β → Prop} {a : α} {b : β} : ∀ {l : List α} {m : List β}, Paired F l m → F a b → Paired F (l ++ [a]) (m ++ [b]) := fun h z => PySem.Paired.snoc h z
theorem paired_init {α β : Type} {F : α → β → Prop} : ∀ {l : List α} {m : List β}, Paired F l m → Paired F l.dropLast m.dropLast
  | _, _, .nil => .nil
  | _, _, .cons h .nil => .nil
  | _, _, .cons h (.cons h2 t) => .cons h (paired_init (.cons h2 t))
section
variable {K : PySem.W.Frag} {σ : L2.St} {H : Hp} {D : Ends} {tu tz : TS} {te ta tb : TE}
/-- o.f = e -/
theorem s_fld {a C dx : Addr} {fs fs' : List (Str × V)} {f : Str} {y : V} (h : Ev te σ H y) (ha : Ev ta σ H (.ref a)) (ho : H a = some (.ins C dx fs)) (hc : Cls K C) (hn : NoAttr K C f) (hl : fs.length < 1000) (hp : putF f y fs = fs')
    (k : ∀ H1, Ex H H1 → D.nx σ (upd H1 a (.ins C dx fs'))) : sFld K ta te f D σ H := h H (Ex.refl H) _ fun H1 e1 => ha H1 e1 _ fun H2 e2 => ⟨a, C, dx, fs, rfl, e2 _ _ (e1 _ _ ho), hc, hn, hl, by
      rw [hp]
      exact k H2 (e1.trans e2)⟩
theorem q_fld {a C dx : Addr} {fs fs' : List (Str × V)} {f : Str} {y : V} (h : Ev te σ H y) (ha : Ev ta σ H (.ref a)) (ho : H a = some (.ins C dx fs)) (hc : Cls K C) (hn : NoAttr K C f) (hl : fs.length < 1000) (hp : putF f y fs = fs')
    (k : ∀ H1, Ex H H1 → tz D σ (upd H1 a (.ins C dx fs'))) : tSeq (sFld K ta te f) tz D σ H := s_fld (D := { D with nx := tz D }) h ha ho hc hn hl hp k
theorem s_fldL {a C dx : Addr} {fs : List (Str × V)} {fs' : Addr → List (Str × V)} {f : Str} {xs : List V} (h : EvL te σ H xs) (ha : Ev ta σ H (.ref a)) (ho : H a = some (.ins C dx fs)) (hc : Cls K C) (hn : NoAttr K C f) (hl : fs.length < 1000) (hp : ∀ p, putF f (.ref p) fs = fs' p)
    (k : ∀ p H1, H p = none → Ex H H1 → H1 p = some (.lst xs) → D.nx σ (upd H1 a (.ins C dx (fs' p)))) : sFld K ta te f D σ H := h H (Ex.refl H) _ fun p H1 hpn e1 h1 => ha H1 e1 _ fun H2 e2 => ⟨a, C, dx, fs, rfl, e2 _ _ (e1 _ _ ho), hc, hn, hl, by
      rw [hp]
      exact k p H2 hpn (e1.trans e2) (e2 _ _ h1)⟩
theorem q_fldL {a C dx : Addr} {fs : List (Str × V)} {fs' : Addr → List (Str × V)} {f : Str} {xs : List V} (h : EvL te σ H xs) (ha : Ev ta σ H (.ref a)) (ho : H a = some (.ins C dx fs)) (hc : Cls K C) (hn : NoAttr K C f) (hl : fs.length < 1000) (hp : ∀ p, putF f (.ref p) fs = fs' p)
    (k : ∀ p H1, H p = none → Ex H H1 → H1 p = some (.lst xs) → tz D σ (upd H1 a (.ins C dx (fs' p)))) : tSeq (sFld K ta te f) tz D σ H := s_fldL (D := { D with nx := tz D }) h ha ho hc hn hl hp k
theorem flat_one {α : Type} (v : α) : ∀ n : Nat, (List.replicate n [v]).flatten = List.replicate n v
  | 0 => rfl
  | n + 1 => by
    rw [List.replicate_succ, List.flatten_cons, flat_one v n]
    rfl
/-- [v] * n -/
theorem el_rep {v : V} {n : Nat} (h : Ev ta σ H v) (h2 : Ev tb σ H (.int (n : Int))) (hn : n ≤ 100000) : EvL (tOp rRep (tLst (tCons ta tNil)) tb) σ H (List.replicate n v) := fun H1 e Q q =>
  (el_lst (ea_cons h ea_nil) (by show 1 ≤ 100000; decide)) H1 e _ fun p H2 hp e2 hl => h2 H2 (e.trans e2) _ fun H3 e3 => ⟨p, (n : Int), [v], rfl, rfl, e3 _ _ hl, by omega, by omega, by
    rw [Int.toNat_natCast]
    have : ([v] : List V).length * n = n := by simp
    rw [this]
    exact sz_of hn, fun r hr => by
    rw [Int.toNat_natCast, flat_one]
    exact q r _ (fresh_back (e2.trans e3) hr) ((e2.trans e3).trans (Ex.new hr)) upd_same⟩
theorem s_pop {l : Addr} {xs : List V} {y : V} (hl : H l = some (.lst xs)) (ha : Ev ta σ H (.ref l)) (hy : xs[xs.length - 1]? = some y) (k : ∀ H1, Ex H H1 → D.nx σ (upd H1 l (.lst xs.dropLast))) : tDrop (tBM0 K "list" rPop ta) D σ H := ha H (Ex.refl H) _ fun H1 e1 => ⟨Or.inl ⟨rfl, _, sq_of (e1 _ _ hl)⟩, l, xs, y, rfl, rfl, e1 _ _ hl, hy, k H1 e1⟩
theorem el_nil : EvL (tLst tNil) σ H [] := el_lst ea_nil (by decide)
end
section
variable {P : Program} {w : World} {K : PySem.W.Frag} {mg : Str → Option Value} {base : Heap} {vs : List V} {H : Hp} {Q : VK} {E : XK}
def sp_Stem_add_crook (K : PySem.W.Frag) : Sp := fun vs H Q _ => ∃ (A : StA) (s : Stem) (x m : Nat), vs = [.ref A.s, .int (x : Int), .int (m : Int)] ∧ StemAt K H A s ∧ s.crooks.length < 20 ∧
  ∀ H' tC, StemAt K H' { A with tC := tC } { s with crooks := s.crooks ++ [(x, m)] } → But A.aC H H' → Q .non H'
theorem len_Stem_add_crook (h : sp_Stem_add_crook K vs H Q E) : vs.length = 3 := by
  obtain ⟨A, s, a, b, rfl, _⟩ := h
  rfl
abbrev NL_Stem_add_crook : List Str := ["self", "x", "most"]
theorem sc_Stem_add_crook : FnScope NL_Stem_add_crook ["self", "x", "most"] (defScope s_Stem_add_crook) := ⟨rfl, rfl, rfl, by decide +kernel, rfl, by decide +kernel, by decide +kernel⟩
def t_Stem_add_crook (K : PySem.W.Frag) : TS := (tDrop (tBM K "list" rAppend (tFld K (tVar 0) "crooks") (tCons (tTup (tCons (tVar 1) (tCons (tVar 2) tNil))) tNil)))
theorem w_Stem_add_crook (T : Txt K mg) (cdv : Value) (A : Around) (outer : List Env) (s : Shared) (H : Hp) (E : XK) (hr : Room 0 (A.deeper (envOfC "Stem.add_crook" (defScope s_Stem_add_crook) s.heap.objs.size (He.fAd K ("Stem", some "add_crook")) cdv))) :
    PSs (cxOf CX0 P w K mg base NL_Stem_add_crook "Stem.add_crook" (defScope s_Stem_add_crook) (He.fAd K ("Stem", some "add_crook")) cdv A outer s H E).nox (defBody s_Stem_add_crook) (t_Stem_add_crook K) := by
  exact (pss_one (ps_expr (pe_bm PySem.F.plainAttrs_list PySem.F.slot_list_append PySem.F.type_list_append mt_append (pe_fld (pv 0) rfl) (pa_cons (pe_tup (pa_cons (pv 1) (pa_cons (pv 2) pa_nil))) pa_nil))))
theorem pure_Stem_add_crook (T : Txt K mg) (h : sp_Stem_add_crook K vs H Q E) : t_Stem_add_crook K { nx := fun _ H' => Q .non H', rt := Q } (start NL_Stem_add_crook vs) H := by
  obtain ⟨A, s, x, m, rfl, hs, hc, k⟩ := h
  refine s_appU (xs := A.tC.map V.ref) hs.cro (evS_crooks T (ev_var rfl) hs) (eu_tup (ea_cons (ev_var rfl) (ea_cons (ev_var rfl) ea_nil)) (by show 2 ≤ 100000; decide)) (by rw [List.length_map, hs.crT.length, List.length_map]; omega) fun p H1 hp e1 h1 => ?_
  have b : But A.aC H (upd H1 A.aC (.lst (A.tC.map V.ref ++ [.ref p]))) := ((But.refl _ H).ex e1).upd
  have pn : p ≠ A.aC := fun z => by
    rw [z, hs.cro] at hp
    cases hp
  refine k _ (A.tC ++ [p]) (hs.set_cro b (by rw [List.map_append]; exact upd_same) ?_ rfl ⟨hs.ok.pts, hs.ok.len, hs.ok.gr, hs.ok.foot, hs.ok.chn, ?_⟩) b
  · rw [List.map_append]
    exact paired_snoc (b.tups hs.cro hs.crT) (st_of (by rw [upd_ne pn]; exact h1))
  · rw [List.length_append]
    show s.crooks.length + 1 ≤ 20
    omega
theorem ok_Stem_add_crook (T : Txt K mg) : Good P w K mg base ("Stem", some "add_crook") 1 ["self", "x", "most"] (sp_Stem_add_crook K) :=
  good_mk (d := d_Stem_add_crook) T 30 rfl rfl rfl sc_Stem_add_crook (fun vs H Q E h => len_Stem_add_crook h) (fun _ _ _ _ _ _ us hl => match us, hl with | [_, _, _], _ => rfl) (fun cdv A outer s H E hr => w_Stem_add_crook T cdv A outer s H E hr) (fun vs H Q E h => pure_Stem_add_crook T h)
/-- a stem with one more piece -/
def cutS (s : Stem) (o : Option Nat) (l v : Nat) : Stem := { s with foot := s.foot + l + v, done := ⟨o, s.foot, l, v⟩ :: s.done }
def sp_Stem_cut_piece (K : PySem.W.Frag) : Sp := fun vs H Q _ => ∃ (A : StA) (s : Stem) (o : Option Nat) (l v : Nat), vs = [.ref A.s, .int (prodI o), .int (l : Int), .int (v : Int)] ∧ StemAt K H A s ∧ (l % 10 = 0 ∧ 10 ≤ l ∧ v % 10 = 0 ∧ v ≤ 90 ∧ (∀ k, o = some k → k ≤ 7)) ∧ s.foot + l + v ≤ s.top ∧
  ∀ H' tI, StemAt K H' { A with tI := tI } (cutS s o l v) → But A.aI H H' → Q .non H'
theorem len_Stem_cut_piece (h : sp_Stem_cut_piece K vs H Q E) : vs.length = 4 := by
  obtain ⟨A, s, o, a, b, rfl, _⟩ := h
  rfl
abbrev NL_Stem_cut_piece : List Str := ["self", "product", "length", "over"]
theorem sc_Stem_cut_piece : FnScope NL_Stem_cut_piece ["self", "product", "length", "over"] (defScope s_Stem_cut_piece) := ⟨rfl, rfl, rfl, by decide +kernel, rfl, by decide +kernel, by decide +kernel⟩
def t_Stem_cut_piece (K : PySem.W.Frag) : TS := (tDrop (tBM K "list" rAppend (tFld K (tVar 0) "pieces") (tCons (tTup (tCons (tMeth (He.ga K "Stem") "foot" (sp_Stem_foot K) [] E0 (tVar 0) tNil) (tCons (tVar 1) (tCons (tVar 2) (tCons (tVar 3) tNil))))) tNil)))
theorem w_Stem_cut_piece (T : Txt K mg) (cdv : Value) (A : Around) (outer : List Env) (s : Shared) (H : Hp) (E : XK) (hr : Room 1 (A.deeper (envOfC "Stem.cut_piece" (defScope s_Stem_cut_piece) s.heap.objs.size (He.fAd K ("Stem", some "cut_piece")) cdv))) :
    PSs (cxOf CX0 P w K mg base NL_Stem_cut_piece "Stem.cut_piece" (defScope s_Stem_cut_piece) (He.fAd K ("Stem", some "cut_piece")) cdv A outer s H E).nox (defBody s_Stem_cut_piece) (t_Stem_cut_piece K) := by
  exact (pss_one (ps_expr (pe_bm PySem.F.plainAttrs_list PySem.F.slot_list_append PySem.F.type_list_append mt_append (pe_fld (pv 0) rfl) (pa_cons (pe_tup (pa_cons (pe_methG0 (pv 0) (T.cls 101 rfl) (T.meth 110 rfl) (ok_Stem_foot T) (hr.mono (by decide))) (pa_cons (pv 1) (pa_cons (pv 2) (pa_cons (pv 3) pa_nil))))) pa_nil))))
theorem pure_Stem_cut_piece (T : Txt K mg) (h : sp_Stem_cut_piece K vs H Q E) : t_Stem_cut_piece K { nx := fun _ H' => Q .non H', rt := Q } (start NL_Stem_cut_piece vs) H := by
  obtain ⟨A, s, o, l, v, rfl, hs, ⟨c1, c2, c3, c4, c5⟩, hc, k⟩ := h
  have hl : A.tI.length = s.done.length := by rw [hs.piT.length, List.length_map, List.length_reverse]
  have := hs.ok.pieces
  refine s_appU (xs := A.tI.map V.ref) hs.pie (evS_pieces T (ev_var rfl) hs) (eu_tup (ea_cons (ev_S0 (ev_var rfl) hs (stF_no (by decide +kernel))) (ea_cons (ev_var rfl) (ea_cons (ev_var rfl) (ea_cons (ev_var rfl) ea_nil)))) (by show 4 ≤ 100000; decide)) (by rw [List.length_map, hl]; omega) fun p H1 hp e1 h1 => ?_
  have b : But A.aI H (upd H1 A.aI (.lst (A.tI.map V.ref ++ [.ref p]))) := ((But.refl _ H).ex e1).upd
  have pn : p ≠ A.aI := fun z => by
    rw [z, hs.pie] at hp
    cases hp
  have h10 := hs.ok.foot10
  refine k _ (A.tI ++ [p]) (hs.set_pie (s' := cutS s o l v) b (by rw [List.map_append]; exact upd_same) ?_ rfl ⟨hs.ok.pts, hs.ok.len, hs.ok.gr, hc, ⟨rfl, ⟨h10, c1, c2, c3, c4, c5⟩, hs.ok.chn⟩, hs.ok.crk⟩) b
  show Tups K _ (A.tI ++ [p]) (List.map encI (⟨o, s.foot, l, v⟩ :: s.done).reverse)
  rw [List.reverse_cons, List.map_append]
  exact paired_snoc (b.tups hs.pie hs.piT) (st_of (by rw [upd_ne pn]; exact h1))
theorem ok_Stem_cut_piece (T : Txt K mg) : Good P w K mg base ("Stem", some "cut_piece") 2 ["self", "product", "length", "over"] (sp_Stem_cut_piece K) :=
  good_mk (d := d_Stem_cut_piece) T 31 rfl rfl rfl sc_Stem_cut_piece (fun vs H Q E h => len_Stem_cut_piece h) (fun _ _ _ _ _ _ us hl => match us, hl with | [_, _, _, _], _ => rfl) (fun cdv A outer s H E hr => w_Stem_cut_piece T cdv A outer s H E hr) (fun vs H Q E h => pure_Stem_cut_piece T h)
def sp_Stem_put_back (K : PySem.W.Frag) : Sp := fun vs H Q _ => ∃ (A : StA) (s : Stem) (p : Piece) (r : List Piece), vs = [.ref A.s] ∧ StemAt K H A s ∧ s.done = p :: r ∧
  ∀ H' tI, StemAt K H' { A with tI := tI } { s with foot := p.begins, done := r } → But A.aI H H' → Q .non H'
theorem len_Stem_put_back (h : sp_Stem_put_back K vs H Q E) : vs.length = 1 := by
  obtain ⟨A, s, o, a, rfl, _⟩ := h
  rfl
abbrev NL_Stem_put_back : List Str := ["self"]
theorem sc_Stem_put_back : FnScope NL_Stem_put_back ["self"] (defScope s_Stem_put_back) := ⟨rfl, rfl, rfl, by decide +kernel, rfl, by decide +kernel, by decide +kernel⟩
def t_Stem_put_back (K : PySem.W.Frag) : TS := (tDrop (tBM0 K "list" rPop (tFld K (tVar 0) "pieces")))
theorem w_Stem_put_back (T : Txt K mg) (cdv : Value) (A : Around) (outer : List Env) (s : Shared) (H : Hp) (E : XK) (hr : Room 0 (A.deeper (envOfC "Stem.put_back" (defScope s_Stem_put_back) s.heap.objs.size (He.fAd K ("Stem", some "put_back")) cdv))) :
    PSs (cxOf CX0 P w K mg base NL_Stem_put_back "Stem.put_back" (defScope s_Stem_put_back) (He.fAd K ("Stem", some "put_back")) cdv A outer s H E).nox (defBody s_Stem_put_back) (t_Stem_put_back K) := by
  exact (pss_one (ps_expr (pe_bm0 PySem.F.plainAttrs_list PySem.F.slot_list_pop PySem.F.type_list_pop mt_pop (pe_fld (pv 0) rfl))))
theorem pure_Stem_put_back (T : Txt K mg) (h : sp_Stem_put_back K vs H Q E) : t_Stem_put_back K { nx := fun _ H' => Q .non H', rt := Q } (start NL_Stem_put_back vs) H := by
  obtain ⟨A, s, p, r, rfl, hs, hd, k⟩ := h
  have hl : A.tI.length = s.done.length := by rw [hs.piT.length, List.length_map, List.length_reverse]
  have hpos : 0 < A.tI.length := by rw [hl, hd]; simp
  obtain ⟨t, ht⟩ : ∃ t, A.tI[A.tI.length - 1]? = some t := ⟨_, List.getElem?_eq_getElem (by omega)⟩
  refine s_pop (y := .ref t) hs.pie (evS_pieces T (ev_var rfl) hs) (by rw [List.length_map, List.getElem?_map, ht]; rfl) fun H1 e1 => ?_
  have b : But A.aI H (upd H1 A.aI (.lst (A.tI.map V.ref).dropLast)) := ((But.refl _ H).ex e1).upd
  have hc := hs.ok.chn
  rw [hd] at hc
  have hft := hs.ok.foot
  refine k _ A.tI.dropLast (hs.set_pie (s' := { s with foot := p.begins, done := r }) b (by rw [← List.map_dropLast]; exact upd_same) ?_ rfl ⟨hs.ok.pts, hs.ok.len, hs.ok.gr, ?_, hc.2.2, hs.ok.crk⟩) b
  · have z := paired_init (b.tups hs.pie hs.piT)
    rw [hd, List.reverse_cons, List.map_append] at z
    have e : (List.map encI r.reverse ++ List.map encI [p]).dropLast = List.map encI r.reverse := by simp
    rw [e] at z
    exact z
  · show p.begins ≤ s.top
    have := hc.1
    omega
theorem ok_Stem_put_back (T : Txt K mg) : Good P w K mg base ("Stem", some "put_back") 1 ["self"] (sp_Stem_put_back K) :=
  good_mk (d := d_Stem_put_back) T 32 rfl rfl rfl sc_Stem_put_back (fun vs H Q E h => len_Stem_put_back h) (fun _ _ _ _ _ _ us hl => match us, hl with | [_], _ => rfl) (fun cdv A outer s H E hr => w_Stem_put_back T cdv A outer s H E hr) (fun vs H Q E h => pure_Stem_put_back T h)
/-- a new stem -/
def newS (l : List (Nat × Nat)) : Stem := ⟨l, List.replicate (lastH l / 10) (9, false), [], 0, []⟩
theorem PtsOk.last {l : List (Nat × Nat)} (h : PtsOk l) : lastH l % 10 = 0 ∧ lastH l ≤ 2000 := by
  have := h.two
  obtain ⟨q, hq, h1, h2, _⟩ := h.at_ (i := l.length - 1) (by omega)
  rw [lastH_at hq]
  exact ⟨h1, h2⟩
theorem newS_ok {l : List (Nat × Nat)} (h : PtsOk l) : StemOk (newS l) := by
  have := h.last
  refine ⟨h, ?_, fun c hc => ?_, Nat.zero_le _, rfl, Nat.zero_le _⟩
  · show 10 * (List.replicate (lastH l / 10) (9, false)).length = lastH l
    rw [List.length_replicate]
    omega
  · rw [(List.mem_replicate.mp hc).2]
    exact Nat.le_refl 9
theorem newS_top {l : List (Nat × Nat)} (h : PtsOk l) : (newS l).top = lastH l := (newS_ok h).topEq
def sp_Stem___init__ (K : PySem.W.Frag) : Sp := fun vs H Q _ => ∃ (x dx aP : Addr) (ts : List Addr) (l : List (Nat × Nat)) (H0 : Hp), vs = [.ref x, .ref aP] ∧ H0 x = none ∧ Ex H0 H ∧ H x = some (.ins (He.ga K "Stem") dx []) ∧ H0 aP = some (.lst (ts.map V.ref)) ∧ Tups K H0 ts (l.map encP) ∧ PtsOk l ∧
  ∀ (A : StA) H', A.s = x → A.aP = aP → (H0 A.aW = none ∧ H0 A.aG = none ∧ H0 A.aR = none ∧ H0 A.aC = none ∧ H0 A.aI = none) → StemAt K H' A (newS l) → Ex H0 H' → Q .non H'
theorem len_Stem___init__ (h : sp_Stem___init__ K vs H Q E) : vs.length = 2 := by
  obtain ⟨A, s, o, a, b, c, rfl, _⟩ := h
  rfl
abbrev NL_Stem___init__ : List Str := ["self", "points", "at"]
theorem sc_Stem___init__ : FnScope NL_Stem___init__ ["self", "points"] (defScope s_Stem___init__) := ⟨rfl, rfl, rfl, by decide +kernel, rfl, by decide +kernel, by decide +kernel⟩
def t_Stem___init__ (K : PySem.W.Frag) : TS := (tSeq (sFld K (tVar 0) (tVar 1) "points")
    (tSeq (sFld K (tVar 0) (tOp (rIxT K) (tOp (rIxL K) (tVar 1) (tUn (rU fun i => .int (-i)) (tC (.int 1)))) (tC (.int 0))) "top")
    (tSeq (sFld K (tVar 0) (tLc (iRng1 (tCons (tOp (rI0 fun i j => .int (i + j)) (tOp (rI CDiv fun i j => .int (i / j)) (tFld K (tVar 0) "top") (tC (.int 5))) (tC (.int 1))) tNil)) (gName 2) tYes (tCall (sp_diameter_at K) [] E0 (tCons (tVar 1) (tCons (tOp (rI CMul fun i j => .int (i * j)) (tC (.int 5)) (tVar 2)) tNil))) [2]) "widths")
    (tSeq (sFld K (tVar 0) (tOp rRep (tLst (tCons (tC (.int (9))) tNil)) (tOp (rI CDiv fun i j => .int (i / j)) (tFld K (tVar 0) "top") (tC (.int 10)))) "grades")
    (tSeq (sFld K (tVar 0) (tOp rRep (tLst (tCons (tC (.int 0)) tNil)) (tOp (rI CDiv fun i j => .int (i / j)) (tFld K (tVar 0) "top") (tC (.int 10)))) "rotten")
    (tSeq (sFld K (tVar 0) (tLst tNil) "crooks")
    (sFld K (tVar 0) (tLst tNil) "pieces")))))))
theorem w_Stem___init__ (T : Txt K mg) (cdv : Value) (A : Around) (outer : List Env) (s : Shared) (H : Hp) (E : XK) (hr : Room 2 (A.deeper (envOfC "Stem.__init__" (defScope s_Stem___init__) s.heap.objs.size (He.fAd K ("Stem", some "__init__")) cdv))) :
    PSs (cxOf CX0 P w K mg base NL_Stem___init__ "Stem.__init__" (defScope s_Stem___init__) (He.fAd K ("Stem", some "__init__")) cdv A outer s H E).nox (defBody s_Stem___init__) (t_Stem___init__ K) := by
  exact (pss_cons (ps_fld (pv 0) (pv 1) rfl)
    (pss_cons (ps_fld (pv 0) (pe_ix ix_tup (pe_ix ix_list (pv 1) (pe_un un_neg (by exact pe_int)) (fun _ _ => rfl)) (by exact pe_int) (fun _ _ => rfl)) rfl)
    (pss_cons (ps_fld (pv 0) (pe_lc (own := [("at", 2)]) (g := gName 2) (tt := tYes) rfl sc_Stem___init__.nd (pi_range1 rfl (T.free 79 rfl) (pa_cons (pe_op op_add (pe_op op_fdiv (pe_fld (pv 0) rfl) (by exact pe_int)) (by exact pe_int)) pa_nil)) (blkOk_by (own := [("at", 2)]) (N := NL_Stem___init__) (sc := (defScope s_Stem___init__)) (by decide +kernel)) (fun _ _ _ _ _ => pg_name (i := 2) sc_Stem___init__.nd rfl (.inl rfl)) (fun _ _ _ _ _ => pts_nil) (fun _ _ _ _ _ => (pe_callG (ok_diameter_at T) (hr.mono (by decide)) rfl (T.glo 20 rfl) (pa_cons (pv 1) (pa_cons (pe_op op_mul (by exact pe_int) (pv 2)) pa_nil))))) rfl)
    (pss_cons (ps_fld (pv 0) (pe_op op_rep (pe_lst (pa_cons (pe_gi rfl (T.int 93 rfl)) pa_nil)) (pe_op op_fdiv (pe_fld (pv 0) rfl) (by exact pe_int))) rfl)
    (pss_cons (ps_fld (pv 0) (pe_op op_rep (pe_lst (pa_cons (by exact pe_int) pa_nil)) (pe_op op_fdiv (pe_fld (pv 0) rfl) (by exact pe_int))) rfl)
    (pss_cons (ps_fld (pv 0) (pe_lst pa_nil) rfl)
    (pss_one (ps_fld (pv 0) (pe_lst pa_nil) rfl))))))))
theorem pure_Stem___init__ (T : Txt K mg) (h : sp_Stem___init__ K vs H Q E) : t_Stem___init__ K { nx := fun _ H' => Q .non H', rt := Q } (start NL_Stem___init__ vs) H := by
  obtain ⟨x, dx, aP, ts, l, H0, rfl, hx0, e0, hx, hP, hT, o, k⟩ := h
  have two := o.two
  have hl := PtsAt.len (a := aP) hT
  have hlast := o.last
  obtain ⟨q, hq, _⟩ := o.at_ (i := l.length - 1) (by omega)
  have hlq := lastH_at hq
  obtain ⟨t, ht1, ht2⟩ := PtsAt.get (a := aP) hT hq
  have cl := T.cls 101 rfl
  -- points
  refine q_fld (fs' := [("points", .ref aP)]) (ev_var rfl) (ev_var rfl) hx cl (T.noat 103 rfl) (by decide) rfl fun H1 e1 => ?_
  generalize hA1 : upd H1 x (.ins (He.ga K "Stem") dx [("points", .ref aP)]) = J1
  have x1 : J1 x = some (.ins (He.ga K "Stem") dx [("points", .ref aP)]) := by rw [← hA1]; exact upd_same
  have E1 : Ex H0 J1 := by rw [← hA1]; exact (e0.trans e1).mut hx0
  -- top
  have ha : atI (ts.map V.ref) (-1) = some (.ref t) := by
    unfold atI ixN
    rw [if_neg (by decide), List.length_map, if_pos (by omega)]
    show (ts.map V.ref)[((-1 : Int) + (ts.length : Nat)).toNat]? = _
    rw [show ((-1 : Int) + (ts.length : Nat)).toNat = l.length - 1 by omega, List.getElem?_map, ht1]
    rfl
  refine q_fld (fs' := [("points", .ref aP), ("top", .int (lastH l : Int))]) (y := .int (lastH l : Int)) (ev_int (ev_ixT (ev_ixL (ev_var rfl) (ev_neg ev_c) (sq_of (E1 _ _ hP)) ha) ev_c (ex_t E1 ht2) rfl) (by rw [hlq])) (ev_var rfl) x1 cl (T.noat 104 rfl) (by show 1 < 1000; decide) ((put_past (by decide +kernel)).trans rfl) fun H2 e2 => ?_
  generalize hA2 : upd H2 x (.ins (He.ga K "Stem") dx [("points", .ref aP), ("top", .int (lastH l : Int))]) = J2
  have x2 : J2 x = some (.ins (He.ga K "Stem") dx [("points", .ref aP), ("top", .int (lastH l : Int))]) := by rw [← hA2]; exact upd_same
  have E2 : Ex H0 J2 := by rw [← hA2]; exact (E1.trans e2).mut hx0
  have top2 : ∀ {σ : L2.St} {J : Hp} {fs : List (Str × V)}, σ[0]? = some (some (.ref x)) → J x = some (.ins (He.ga K "Stem") dx (("points", .ref aP) :: ("top", .int (lastH l : Int)) :: fs)) → Ev (tFld K (tVar 0) "top") σ J (.int (lastH l : Int)) := fun hσ hJ => ev_fld (ev_var hσ) hJ cl (T.noat 104 rfl) ((lk_past (by decide +kernel)).trans lk_here)
  -- widths
  have hP2 : PtsAt K J2 aP l := ⟨ts, sq_of (E2 _ _ hP), tups_ex E2 hT⟩
  refine q_fldL (fs' := fun p => [("points", .ref aP), ("top", .int (lastH l : Int)), ("widths", .ref p)]) (xs := (List.range (lastH l / 5 + 1)).map fun i => V.int ((diameterIn l (5 * i) : Nat) : Int))
    (el_mapR (n := lastH l / 5 + 1) _ (ea_cons (ev_int (ev_add (ev_div (top2 rfl x2) ev_c (by decide)) ev_c) (by omega)) ea_nil) (by omega) (fun _ => rfl) fun i hi => ev_call (ea_cons (ev_var rfl) (ea_cons (ev_mul ev_c (ev_var rfl) (.inl (by decide))) ea_nil)) fun J e Q' q' _ => ⟨aP, l, 5 * i, by
      show [V.ref aP, V.int (5 * (i : Int))] = _
      rw [Int.natCast_mul]
      rfl, hP2.mono e, o, by omega, q'⟩) (ev_var rfl) x2 cl (T.noat 105 rfl) (by show 2 < 1000; decide) (fun p => (put_past (by decide +kernel)).trans (congrArg _ ((put_past (by decide +kernel)).trans rfl))) fun aW H3 nW e3 hW => ?_
  generalize hA3 : upd H3 x (.ins (He.ga K "Stem") dx [("points", .ref aP), ("top", .int (lastH l : Int)), ("widths", .ref aW)]) = J3
  have x3 : J3 x = some (.ins (He.ga K "Stem") dx [("points", .ref aP), ("top", .int (lastH l : Int)), ("widths", .ref aW)]) := by rw [← hA3]; exact upd_same
  have E3 : Ex H0 J3 := by rw [← hA3]; exact (E2.trans e3).mut hx0
  have xne : ∀ {J J' : Hp} {y : Addr} {fs : List (Str × V)} {xs : List V}, J' x = some (.ins (He.ga K "Stem") dx fs) → Ex J' J → J y = some (.lst xs) → y ≠ x := fun h1 h2 h3 => ne_of h3 (h2 _ _ h1) (by intro z; cases z)
  have W3 : J3 aW = some (.lst ((List.range (lastH l / 5 + 1)).map fun i => V.int ((diameterIn l (5 * i) : Nat) : Int))) := by
    rw [← hA3, upd_ne (xne x2 e3 hW)]
    exact hW
  have nW0 : H0 aW = none := fresh_back E2 nW
  have PW : aP ≠ aW := ne_of_none (E2 _ _ hP) nW
  -- grades
  refine q_fldL (fs' := fun p => [("points", .ref aP), ("top", .int (lastH l : Int)), ("widths", .ref aW), ("grades", .ref p)]) (el_rep (n := lastH l / 10) ev_c (ev_int (ev_div (top2 rfl x3) ev_c (by decide)) (by omega)) (by omega)) (ev_var rfl) x3 cl (T.noat 106 rfl) (by show 3 < 1000; decide) (fun p => (put_past (by decide +kernel)).trans (congrArg _ ((put_past (by decide +kernel)).trans (congrArg _ ((put_past (by decide +kernel)).trans rfl))))) fun aG H4 nG e4 hG => ?_
  generalize hA4 : upd H4 x (.ins (He.ga K "Stem") dx [("points", .ref aP), ("top", .int (lastH l : Int)), ("widths", .ref aW), ("grades", .ref aG)]) = J4
  have x4 : J4 x = some (.ins (He.ga K "Stem") dx [("points", .ref aP), ("top", .int (lastH l : Int)), ("widths", .ref aW), ("grades", .ref aG)]) := by rw [← hA4]; exact upd_same
  have E4 : Ex H0 J4 := by rw [← hA4]; exact (E3.trans e4).mut hx0
  have keep4 : ∀ {y : Addr} {xs : List V}, J3 y = some (.lst xs) → J4 y = some (.lst xs) := fun {y xs} h => by
    rw [← hA4, upd_ne (ne_of h x3 (by intro z; cases z))]
    exact e4 _ _ h
  have G4 : J4 aG = some (.lst (List.replicate (lastH l / 10) (V.int 9))) := by
    rw [← hA4, upd_ne (xne x3 e4 hG)]
    exact hG
  have W4 := keep4 W3
  have nG0 : H0 aG = none := fresh_back E3 nG
  have PG : aP ≠ aG := ne_of_none (E3 _ _ hP) nG
  have WG : aW ≠ aG := ne_of_none W3 nG
  -- rotten
  refine q_fldL (fs' := fun p => [("points", .ref aP), ("top", .int (lastH l : Int)), ("widths", .ref aW), ("grades", .ref aG), ("rotten", .ref p)]) (el_rep (n := lastH l / 10) ev_c (ev_int (ev_div (top2 rfl x4) ev_c (by decide)) (by omega)) (by omega)) (ev_var rfl) x4 cl (T.noat 107 rfl) (by show 4 < 1000; decide) (fun p => (put_past (by decide +kernel)).trans (congrArg _ ((put_past (by decide +kernel)).trans (congrArg _ ((put_past (by decide +kernel)).trans (congrArg _ ((put_past (by decide +kernel)).trans rfl))))))) fun aR H5 nR e5 hR => ?_
  generalize hA5 : upd H5 x (.ins (He.ga K "Stem") dx [("points", .ref aP), ("top", .int (lastH l : Int)), ("widths", .ref aW), ("grades", .ref aG), ("rotten", .ref aR)]) = J5
  have x5 : J5 x = some (.ins (He.ga K "Stem") dx [("points", .ref aP), ("top", .int (lastH l : Int)), ("widths", .ref aW), ("grades", .ref aG), ("rotten", .ref aR)]) := by rw [← hA5]; exact upd_same
  have E5 : Ex H0 J5 := by rw [← hA5]; exact (E4.trans e5).mut hx0
  have keep5 : ∀ {y : Addr} {xs : List V}, J4 y = some (.lst xs) → J5 y = some (.lst xs) := fun {y xs} h => by
    rw [← hA5, upd_ne (ne_of h x4 (by intro z; cases z))]
    exact e5 _ _ h
  have R5 : J5 aR = some (.lst (List.replicate (lastH l / 10) (V.int 0))) := by
    rw [← hA5, upd_ne (xne x4 e5 hR)]
    exact hR
  have W5 := keep5 W4
  have G5 := keep5 G4
  have nR0 : H0 aR = none := fresh_back E4 nR
  have PR : aP ≠ aR := ne_of_none (E4 _ _ hP) nR
  have WR : aW ≠ aR := ne_of_none W4 nR
  have GR : aG ≠ aR := ne_of_none G4 nR
  -- crooks
  refine q_fldL (fs' := fun p => [("points", .ref aP), ("top", .int (lastH l : Int)), ("widths", .ref aW), ("grades", .ref aG), ("rotten", .ref aR), ("crooks", .ref p)]) el_nil (ev_var rfl) x5 cl (T.noat 108 rfl) (by show 5 < 1000; decide) (fun p => (put_past (by decide +kernel)).trans (congrArg _ ((put_past (by decide +kernel)).trans (congrArg _ ((put_past (by decide +kernel)).trans (congrArg _ ((put_past (by decide +kernel)).trans (congrArg _ ((put_past (by decide +kernel)).trans rfl))))))))) fun aC H6 nC e6 hC => ?_
  generalize hA6 : upd H6 x (.ins (He.ga K "Stem") dx [("points", .ref aP), ("top", .int (lastH l : Int)), ("widths", .ref aW), ("grades", .ref aG), ("rotten", .ref aR), ("crooks", .ref aC)]) = J6
  have x6 : J6 x = some (.ins (He.ga K "Stem") dx [("points", .ref aP), ("top", .int (lastH l : Int)), ("widths", .ref aW), ("grades", .ref aG), ("rotten", .ref aR), ("crooks", .ref aC)]) := by rw [← hA6]; exact upd_same
  have E6 : Ex H0 J6 := by rw [← hA6]; exact (E5.trans e6).mut hx0
  have keep6 : ∀ {y : Addr} {xs : List V}, J5 y = some (.lst xs) → J6 y = some (.lst xs) := fun {y xs} h => by
    rw [← hA6, upd_ne (ne_of h x5 (by intro z; cases z))]
    exact e6 _ _ h
  have C6 : J6 aC = some (.lst []) := by
    rw [← hA6, upd_ne (xne x5 e6 hC)]
    exact hC
  have W6 := keep6 W5
  have G6 := keep6 G5
  have R6 := keep6 R5
  have nC0 : H0 aC = none := fresh_back E5 nC
  have PC : aP ≠ aC := ne_of_none (E5 _ _ hP) nC
  have WC : aW ≠ aC := ne_of_none W5 nC
  have GC : aG ≠ aC := ne_of_none G5 nC
  have RC : aR ≠ aC := ne_of_none R5 nC
  -- pieces
  refine s_fldL (fs' := fun p => [("points", .ref aP), ("top", .int (lastH l : Int)), ("widths", .ref aW), ("grades", .ref aG), ("rotten", .ref aR), ("crooks", .ref aC), ("pieces", .ref p)]) el_nil (ev_var rfl) x6 cl (T.noat 109 rfl) (by show 6 < 1000; decide) (fun p => (put_past (by decide +kernel)).trans (congrArg _ ((put_past (by decide +kernel)).trans (congrArg _ ((put_past (by decide +kernel)).trans (congrArg _ ((put_past (by decide +kernel)).trans (congrArg _ ((put_past (by decide +kernel)).trans (congrArg _ ((put_past (by decide +kernel)).trans rfl))))))))))) fun aI H7 nI e7 hI => ?_
  generalize hA7 : upd H7 x (.ins (He.ga K "Stem") dx [("points", .ref aP), ("top", .int (lastH l : Int)), ("widths", .ref aW), ("grades", .ref aG), ("rotten", .ref aR), ("crooks", .ref aC), ("pieces", .ref aI)]) = J7
  have x7 : J7 x = some (.ins (He.ga K "Stem") dx [("points", .ref aP), ("top", .int (lastH l : Int)), ("widths", .ref aW), ("grades", .ref aG), ("rotten", .ref aR), ("crooks", .ref aC), ("pieces", .ref aI)]) := by rw [← hA7]; exact upd_same
  have E7 : Ex H0 J7 := by rw [← hA7]; exact (E6.trans e7).mut hx0
  have keep7 : ∀ {y : Addr} {xs : List V}, J6 y = some (.lst xs) → J7 y = some (.lst xs) := fun {y xs} h => by
    rw [← hA7, upd_ne (ne_of h x6 (by intro z; cases z))]
    exact e7 _ _ h
  have I7 : J7 aI = some (.lst []) := by
    rw [← hA7, upd_ne (xne x6 e7 hI)]
    exact hI
  have nI0 : H0 aI = none := fresh_back E6 nI
  have ok := newS_ok o
  have etop : (newS l).top = lastH l := newS_top o
  refine k ⟨x, dx, aP, aW, aG, aR, aC, aI, ts, [], []⟩ J7 rfl rfl ⟨nW0, nG0, nR0, nC0, nI0⟩ ⟨?_, E7 _ _ hP, tups_ex E7 hT, ?_, ?_, ?_, keep7 C6, .nil, I7, .nil, ?_, ok⟩ E7
  · rw [etop]
    exact x7
  · have z := keep7 W6
    unfold widthsL
    rw [etop, List.map_map]
    exact z
  · have z := keep7 G6
    show J7 aG = some (.lst ((gradesL (newS l)).map V.int))
    rw [show (gradesL (newS l)).map V.int = List.replicate (lastH l / 10) (V.int 9) by
      show ((List.replicate (lastH l / 10) ((9 : Nat), false)).map fun c => (c.1 : Int)).map V.int = _
      rw [List.map_replicate, List.map_replicate]
      rfl]
    exact z
  · have z := keep7 R6
    show J7 aR = some (.lst ((rottenL (newS l)).map V.int))
    rw [show (rottenL (newS l)).map V.int = List.replicate (lastH l / 10) (V.int 0) by
      show ((List.replicate (lastH l / 10) ((9 : Nat), false)).map fun c => if c.2 = true then (1 : Int) else 0).map V.int = _
      rw [List.map_replicate, List.map_replicate]
      rfl]
    exact z
  · have PI : aP ≠ aI := ne_of_none (E6 _ _ hP) nI
    have WI : aW ≠ aI := ne_of_none W6 nI
    have GI : aG ≠ aI := ne_of_none G6 nI
    have RI : aR ≠ aI := ne_of_none R6 nI
    have CI : aC ≠ aI := ne_of_none C6 nI
    show [aP, aW, aG, aR, aC, aI].Nodup
    simp only [List.nodup_cons, List.mem_cons, List.not_mem_nil, or_false, not_or, List.nodup_nil, and_true]
    exact ⟨⟨PW, PG, PR, PC, PI⟩, ⟨WG, WR, WC, WI⟩, ⟨GR, GC, GI⟩, ⟨RC, RI⟩, CI, fun z => z⟩
theorem ok_Stem___init__ (T : Txt K mg) : Good P w K mg base ("Stem", some "__init__") 3 ["self", "points"] (sp_Stem___init__ K) :=
  good_mk (d := d_Stem___init__) T 22 rfl rfl rfl sc_Stem___init__ (fun vs H Q E h => len_Stem___init__ h) (fun _ _ _ _ _ _ us hl => match us, hl with | [_, _], _ => rfl) (fun cdv A outer s H E hr => w_Stem___init__ T cdv A outer s H E hr) (fun vs H Q E h => pure_Stem___init__ T h)
end
end Sb
end
section
set_option maxHeartbeats 4000000
namespace Sb
open PySem PySem.Spec PySem.Calls PyProof.Rows L2 Evl
open TimBuck (Stem Product Piece diameterIn)
section
variable {K : PySem.W.Frag} {σ : L2.St} {H : Hp} {D : Ends} {tu tz : TS} {te tl : TE}
/-- over a list of tuples of whole numbers -/
theorem s_forTup {a : Addr} {ts : List Addr} {ks : List (List Int)} {n : Nat} {gs : TGs} {H0 : Hp} (h : Ev tl σ H (.ref a)) (hx : SqL K H0 a (ts.map V.ref)) (hT : Tups K H0 ts ks) (Pv : Nat → L2.St → Hp → Prop) (h0 : ∀ H1, Ex H H1 → Pv 0 σ H1) (ex : ∀ i σ' H', Pv i σ' H' → Ex H0 H')
    (hs : ∀ i k σ' H', ks[i]? = some k → Pv i σ' H' → k.length = n ∧ gs (k.map V.int) σ' H' fun σ2 H2 => tu { D with nx := Pv (i + 1), ct := Pv (i + 1), bk := D.nx } σ2 H2) (hd : ∀ σ' H', Pv ks.length σ' H' → D.nx σ' H') : tFor (iList K tl) (gTup K n gs) tu D σ H :=
  h H (Ex.refl H) _ fun H1 e => ⟨a, rfl, ⟨ts.map V.ref, ex_l (ex _ _ _ (h0 H1 e)) hx⟩, for_list (g := gTup K n gs) Pv (h0 H1 e) (fun i σ' H' _ p => ex_l (ex _ _ _ p) hx) (fun i x σ' H' hi p => by
    rw [List.getElem?_map] at hi
    cases ht : ts[i]? with
    | none =>
      rw [ht] at hi
      cases hi
    | some t =>
      rw [ht] at hi
      cases hi
      obtain ⟨k, hk, hk2⟩ := tups_get hT ht
      obtain ⟨z1, z2⟩ := hs i k σ' H' hk p
      exact ⟨t, k.map V.int, rfl, ex_t (ex _ _ _ p) hk2, by rw [List.length_map]; exact z1, z2⟩) fun σ' H' p => hd σ' H' (by
    rw [List.length_map, hT.length] at p
    exact p)⟩
theorem q_forTup {a : Addr} {ts : List Addr} {ks : List (List Int)} {n : Nat} {gs : TGs} {H0 : Hp} (h : Ev tl σ H (.ref a)) (hx : SqL K H0 a (ts.map V.ref)) (hT : Tups K H0 ts ks) (Pv : Nat → L2.St → Hp → Prop) (h0 : ∀ H1, Ex H H1 → Pv 0 σ H1) (ex : ∀ i σ' H', Pv i σ' H' → Ex H0 H')
    (hs : ∀ i k σ' H', ks[i]? = some k → Pv i σ' H' → k.length = n ∧ gs (k.map V.int) σ' H' fun σ2 H2 => tu { D with nx := Pv (i + 1), ct := Pv (i + 1), bk := tz D } σ2 H2) (hd : ∀ σ' H', Pv ks.length σ' H' → tz D σ' H') : tSeq (tFor (iList K tl) (gTup K n gs) tu) tz D σ H :=
  s_forTup (D := { D with nx := tz D }) h hx hT Pv h0 ex hs hd
theorem el_rg3 {ta : TA} {i j c : Int} {n : Nat} (h : EvA ta σ H [.int i, .int j, .int c]) (hn : RgC i j c n) (hz : n ≤ 16777216) : EvL (tLstRg3 ta) σ H ((List.range n).map fun m => V.int (i + (m : Nat) * c)) := fun H1 e Q q =>
  h H1 e _ fun H2 e2 => ⟨i, j, c, n, rfl, hn, hz, fun p hp => q p _ (fresh_back e2 hp) (e2.trans (Ex.new hp)) upd_same⟩
theorem map_at {α β : Type} {f : α → β} {l : List α} {i : Nat} {k : β} (h : (l.map f)[i]? = some k) : ∃ c, l[i]? = some c ∧ k = f c := by
  rw [List.getElem?_map] at h
  cases hc : l[i]? with
  | none =>
    rw [hc] at h
    cases h
  | some c =>
    rw [hc] at h
    cases h
    exact ⟨c, rfl, rfl⟩
end
section
variable {P : Program} {w : World} {K : PySem.W.Frag} {mg : Str → Option Value} {base : Heap} {vs : List V} {H : Hp} {Q : VK} {E : XK}
theorem ev_methP {σ : L2.St} {ta : TE} {m : Str} {E' : XK} {A : PrA} {p : Product} {sp : Sp} {t : TA} {us : List V} {z : V} (h : Ev ta σ H (.ref A.p)) (hs : ProdAt K H A p) (hm : (prF p A.aQ).lookup m = none) (ht : EvA t σ H us) (hc : SpV sp (.ref A.p :: us) H z) : Ev (tMeth (He.ga K "Product") m sp [] E' ta t) σ H z := fun H1 e Q q =>
  h H1 e _ fun H2 e2 => ⟨A.p, A.dx, _, rfl, (hs.mono (e.trans e2)).ins, hm, ht H2 (e.trans e2) _ fun H3 e3 => by
    show sp (.ref A.p :: (us ++ [])) H3 Q E'
    rw [List.append_nil]
    exact hc H3 ((e.trans e2).trans e3) Q (fun H4 e4 => q H4 ((e2.trans e3).trans e4)) E'⟩
/-! ## a new product -/
def sp_Product___init__ (K : PySem.W.Frag) : Sp := fun vs H Q _ => ∃ (x dx aT : Addr) (p : Product) (H0 : Hp), vs = [.ref x, .ref aT] ∧ H0 x = none ∧ Ex H0 H ∧ H x = some (.ins (He.ga K "Product") dx []) ∧
  SqL K H aT (([(p.grade : Int), (p.least : Int), (p.most : Int), (p.step : Int), (p.top : Int), (p.butt : Int), (p.over : Int)] : List Int).map V.int) ∧ ProdOk p ∧ p.prices = [] ∧ ∀ (A : PrA) H', A.p = x → H0 A.aQ = none → ProdAt K H' A p → Ex H0 H' → Q .non H'
theorem len_Product___init__ (h : sp_Product___init__ K vs H Q E) : vs.length = 2 := by
  obtain ⟨a, b, c, d, e, rfl, _⟩ := h
  rfl
abbrev NL_Product___init__ : List Str := ["self", "terms", "grade", "first", "last", "step", "least_top", "greatest_butt", "over"]
theorem sc_Product___init__ : FnScope NL_Product___init__ ["self", "terms"] (defScope s_Product___init__) := ⟨rfl, rfl, rfl, by decide +kernel, rfl, by decide +kernel, by decide +kernel⟩
def t_Product___init__ (K : PySem.W.Frag) : TS := (tSeq (tAsg (tVar 1) (gUnl K 7 (gCons (gName 2) (gCons (gName 3) (gCons (gName 4) (gCons (gName 5) (gCons (gName 6) (gCons (gName 7) (gCons (gName 8) gNil)))))))))
    (tSeq (sFld K (tVar 0) (tVar 2) "grade")
    (tSeq (sFld K (tVar 0) (tVar 3) "first")
    (tSeq (sFld K (tVar 0) (tVar 4) "last")
    (tSeq (sFld K (tVar 0) (tVar 5) "step")
    (tSeq (sFld K (tVar 0) (tVar 6) "least_top")
    (tSeq (sFld K (tVar 0) (tVar 7) "greatest_butt")
    (tSeq (sFld K (tVar 0) (tVar 8) "over")
    (sFld K (tVar 0) (tLst tNil) "prices")))))))))
theorem w_Product___init__ (T : Txt K mg) (cdv : Value) (A : Around) (outer : List Env) (s : Shared) (H : Hp) (E : XK) (hr : Room 0 (A.deeper (envOfC "Product.__init__" (defScope s_Product___init__) s.heap.objs.size (He.fAd K ("Product", some "__init__")) cdv))) :
    PSs (cxOf CX0 P w K mg base NL_Product___init__ "Product.__init__" (defScope s_Product___init__) (He.fAd K ("Product", some "__init__")) cdv A outer s H E).nox (defBody s_Product___init__) (t_Product___init__ K) := by
  exact (pss_cons (ps_asg (pv 1) (pg_unl rfl (pgs_cons (pg_name (i := 2) sc_Product___init__.nd rfl (.inl rfl)) (pgs_cons (pg_name (i := 3) sc_Product___init__.nd rfl (.inl rfl)) (pgs_cons (pg_name (i := 4) sc_Product___init__.nd rfl (.inl rfl)) (pgs_cons (pg_name (i := 5) sc_Product___init__.nd rfl (.inl rfl)) (pgs_cons (pg_name (i := 6) sc_Product___init__.nd rfl (.inl rfl)) (pgs_cons (pg_name (i := 7) sc_Product___init__.nd rfl (.inl rfl)) (pgs_cons (pg_name (i := 8) sc_Product___init__.nd rfl (.inl rfl)) pgs_nil)))))))))
    (pss_cons (ps_fld (pv 0) (pv 2) rfl)
    (pss_cons (ps_fld (pv 0) (pv 3) rfl)
    (pss_cons (ps_fld (pv 0) (pv 4) rfl)
    (pss_cons (ps_fld (pv 0) (pv 5) rfl)
    (pss_cons (ps_fld (pv 0) (pv 6) rfl)
    (pss_cons (ps_fld (pv 0) (pv 7) rfl)
    (pss_cons (ps_fld (pv 0) (pv 8) rfl)
    (pss_one (ps_fld (pv 0) (pe_lst pa_nil) rfl))))))))))
theorem pure_Product___init__ (T : Txt K mg) (h : sp_Product___init__ K vs H Q E) : t_Product___init__ K { nx := fun _ H' => Q .non H', rt := Q } (start NL_Product___init__ vs) H := by
  obtain ⟨x, dx, aT, p, H0, rfl, hx0, e0, hx, hT, ok, hp, k⟩ := h
  have cl := T.cls 120 rfl
  refine q_unL (σ' := [some (.ref x), some (.ref aT), some (.int (p.grade : Int)), some (.int (p.least : Int)), some (.int (p.most : Int)), some (.int (p.step : Int)), some (.int (p.top : Int)), some (.int (p.butt : Int)), some (.int (p.over : Int))]) (ev_var rfl) hT rfl (fun H' Q q => ⟨_, _, rfl, _, _, rfl, _, _, rfl, _, _, rfl, _, _, rfl, _, _, rfl, _, _, rfl, rfl, q⟩) fun J e => ?_
  replace hx := e _ _ hx
  replace e0 := e0.trans e
  refine q_fld (fs' := [("grade", .int (p.grade : Int))]) (ev_var rfl) (ev_var rfl) hx cl (T.noat 122 rfl) (by decide) rfl fun J1 e1 => ?_
  refine q_fld (fs' := [("grade", .int (p.grade : Int)), ("first", .int (p.least : Int))]) (ev_var rfl) (ev_var rfl) upd_same cl (T.noat 123 rfl) (by show 1 < 1000; decide) ((put_past (by decide +kernel)).trans rfl) fun J2 e2 => ?_
  refine q_fld (fs' := [("grade", .int (p.grade : Int)), ("first", .int (p.least : Int)), ("last", .int (p.most : Int))]) (ev_var rfl) (ev_var rfl) upd_same cl (T.noat 124 rfl) (by show 2 < 1000; decide) ((put_past (by decide +kernel)).trans (congrArg _ ((put_past (by decide +kernel)).trans rfl))) fun J3 e3 => ?_
  refine q_fld (fs' := [("grade", .int (p.grade : Int)), ("first", .int (p.least : Int)), ("last", .int (p.most : Int)), ("step", .int (p.step : Int))]) (ev_var rfl) (ev_var rfl) upd_same cl (T.noat 125 rfl) (by show 3 < 1000; decide) ((put_past (by decide +kernel)).trans (congrArg _ ((put_past (by decide +kernel)).trans (congrArg _ ((put_past (by decide +kernel)).trans rfl))))) fun J4 e4 => ?_
  refine q_fld (fs' := [("grade", .int (p.grade : Int)), ("first", .int (p.least : Int)), ("last", .int (p.most : Int)), ("step", .int (p.step : Int)), ("least_top", .int (p.top : Int))]) (ev_var rfl) (ev_var rfl) upd_same cl (T.noat 126 rfl) (by show 4 < 1000; decide) ((put_past (by decide +kernel)).trans (congrArg _ ((put_past (by decide +kernel)).trans (congrArg _ ((put_past (by decide +kernel)).trans (congrArg _ ((put_past (by decide +kernel)).trans rfl))))))) fun J5 e5 => ?_
  refine q_fld (fs' := [("grade", .int (p.grade : Int)), ("first", .int (p.least : Int)), ("last", .int (p.most : Int)), ("step", .int (p.step : Int)), ("least_top", .int (p.top : Int)), ("greatest_butt", .int (p.butt : Int))]) (ev_var rfl) (ev_var rfl) upd_same cl (T.noat 127 rfl) (by show 5 < 1000; decide) ((put_past (by decide +kernel)).trans (congrArg _ ((put_past (by decide +kernel)).trans (congrArg _ ((put_past (by decide +kernel)).trans (congrArg _ ((put_past (by decide +kernel)).trans (congrArg _ ((put_past (by decide +kernel)).trans rfl))))))))) fun J6 e6 => ?_
  refine q_fld (fs' := [("grade", .int (p.grade : Int)), ("first", .int (p.least : Int)), ("last", .int (p.most : Int)), ("step", .int (p.step : Int)), ("least_top", .int (p.top : Int)), ("greatest_butt", .int (p.butt : Int)), ("over", .int (p.over : Int))]) (ev_var rfl) (ev_var rfl) upd_same cl (T.noat 128 rfl) (by show 6 < 1000; decide) ((put_past (by decide +kernel)).trans (congrArg _ ((put_past (by decide +kernel)).trans (congrArg _ ((put_past (by decide +kernel)).trans (congrArg _ ((put_past (by decide +kernel)).trans (congrArg _ ((put_past (by decide +kernel)).trans (congrArg _ ((put_past (by decide +kernel)).trans rfl))))))))))) fun J7 e7 => ?_
  refine s_fldL (fs' := fun q => prF p q) el_nil (ev_var rfl) upd_same cl (T.noat 129 rfl) (by show 7 < 1000; decide) (fun q => ((put_past (by decide +kernel)).trans (congrArg _ ((put_past (by decide +kernel)).trans (congrArg _ ((put_past (by decide +kernel)).trans (congrArg _ ((put_past (by decide +kernel)).trans (congrArg _ ((put_past (by decide +kernel)).trans (congrArg _ ((put_past (by decide +kernel)).trans (congrArg _ ((put_past (by decide +kernel)).trans rfl)))))))))))))) fun q J8 hq e8 h8 => ?_
  have E7 : Ex H0 J7 := (((((((((e0.trans e1).mut hx0).trans e2).mut hx0).trans e3).mut hx0).trans e4).mut hx0 |>.trans e5 |>.mut hx0 |>.trans e6 |>.mut hx0).trans e7)
  have nx : q ≠ x := fun z => by
    rw [z] at hq
    exact absurd (upd_same.symm.trans hq) (by intro z; cases z)
  refine k ⟨x, dx, q, []⟩ _ rfl (fresh_back (E7.mut hx0) hq) ⟨upd_same, ?_, ?_, ok⟩ (((E7.mut hx0).trans e8).mut hx0)
  · rw [upd_ne nx]
    exact h8
  · rw [hp]
    exact .nil
theorem ok_Product___init__ (T : Txt K mg) : Good P w K mg base ("Product", some "__init__") 1 ["self", "terms"] (sp_Product___init__ K) :=
  good_mk (d := d_Product___init__) T 33 rfl rfl rfl sc_Product___init__ (fun vs H Q E h => len_Product___init__ h) (fun _ _ _ _ _ _ us hl => match us, hl with | [_, _], _ => rfl) (fun cdv A outer s H E hr => w_Product___init__ T cdv A outer s H E hr) (fun vs H Q E h => pure_Product___init__ T h)
/-! ## price rows -/
def sp_Product_put_prices (K : PySem.W.Frag) : Sp := fun vs H Q _ => ∃ (A : PrA) (p : Product) (aR : Addr) (ts : List Addr) (rows : List (Nat × Nat)), vs = [.ref A.p, .ref aR] ∧ ProdAt K H A p ∧ H aR = some (.lst (ts.map V.ref)) ∧ Tups K H ts (rows.map encP) ∧ ProdOk { p with prices := rows } ∧
  ∀ H', ProdAt K H' ⟨A.p, A.dx, aR, ts⟩ { p with prices := rows } → But A.p H H' → Q .non H'
theorem len_Product_put_prices (h : sp_Product_put_prices K vs H Q E) : vs.length = 2 := by
  obtain ⟨a, b, c, d, e, rfl, _⟩ := h
  rfl
abbrev NL_Product_put_prices : List Str := ["self", "rows"]
theorem sc_Product_put_prices : FnScope NL_Product_put_prices ["self", "rows"] (defScope s_Product_put_prices) := ⟨rfl, rfl, rfl, by decide +kernel, rfl, by decide +kernel, by decide +kernel⟩
def t_Product_put_prices (K : PySem.W.Frag) : TS := (sFld K (tVar 0) (tVar 1) "prices")
theorem w_Product_put_prices (T : Txt K mg) (cdv : Value) (A : Around) (outer : List Env) (s : Shared) (H : Hp) (E : XK) (hr : Room 0 (A.deeper (envOfC "Product.put_prices" (defScope s_Product_put_prices) s.heap.objs.size (He.fAd K ("Product", some "put_prices")) cdv))) :
    PSs (cxOf CX0 P w K mg base NL_Product_put_prices "Product.put_prices" (defScope s_Product_put_prices) (He.fAd K ("Product", some "put_prices")) cdv A outer s H E).nox (defBody s_Product_put_prices) (t_Product_put_prices K) := by
  exact (pss_one (ps_fld (pv 0) (pv 1) rfl))
theorem pure_Product_put_prices (T : Txt K mg) (h : sp_Product_put_prices K vs H Q E) : t_Product_put_prices K { nx := fun _ H' => Q .non H', rt := Q } (start NL_Product_put_prices vs) H := by
  obtain ⟨A, p, aR, ts, rows, rfl, hA, hR, hT, ok, k⟩ := h
  have cl := T.cls 120 rfl
  have put : putF "prices" (.ref aR) (prF p A.aQ) = prF p aR := ((put_past (by decide +kernel)).trans (congrArg _ ((put_past (by decide +kernel)).trans (congrArg _ ((put_past (by decide +kernel)).trans (congrArg _ ((put_past (by decide +kernel)).trans (congrArg _ ((put_past (by decide +kernel)).trans (congrArg _ ((put_past (by decide +kernel)).trans (congrArg _ ((put_past (by decide +kernel)).trans rfl)))))))))))))
  refine s_fld (ev_var rfl) (ev_var rfl) hA.ins cl (T.noat 129 rfl) (by show 8 < 1000; decide) put fun H1 e1 => ?_
  have b : But A.p H (upd H1 A.p (.ins (He.ga K "Product") A.dx (prF p aR))) := ((But.refl _ H).ex e1).upd
  refine k _ ⟨upd_same, b _ _ (ne_of hR hA.ins (by intro z; cases z)) hR, ?_, ok⟩ b
  refine Paired.mapP hT fun t ks z => ?_
  rcases z with (z | ⟨o, z⟩) | z
  · exact .inl (.inl (b _ _ (ne_of z hA.ins (by intro z; cases z)) z))
  · exact .inl (.inr ⟨o, b _ _ (ne_of z hA.ins (by intro z; cases z)) z⟩)
  · exact .inr z
theorem ok_Product_put_prices (T : Txt K mg) : Good P w K mg base ("Product", some "put_prices") 1 ["self", "rows"] (sp_Product_put_prices K) :=
  good_mk (d := d_Product_put_prices) T 34 rfl rfl rfl sc_Product_put_prices (fun vs H Q E h => len_Product_put_prices h) (fun _ _ _ _ _ _ us hl => match us, hl with | [_, _], _ => rfl) (fun cdv A outer s H E hr => w_Product_put_prices T cdv A outer s H E hr) (fun vs H Q E h => pure_Product_put_prices T h)
/-! ## paid lengths -/
def sp_Product_pays (K : PySem.W.Frag) : Sp := fun vs H Q _ => ∃ (A : PrA) (p : Product) (l : Nat), vs = [.ref A.p, .int (l : Int)] ∧ ProdAt K H A p ∧ ∀ H', Ex H H' → Q (.bl (p.has l)) H'
theorem len_Product_pays (h : sp_Product_pays K vs H Q E) : vs.length = 2 := by
  obtain ⟨a, b, c, rfl, _⟩ := h
  rfl
abbrev NL_Product_pays : List Str := ["self", "length"]
theorem sc_Product_pays : FnScope NL_Product_pays ["self", "length"] (defScope s_Product_pays) := ⟨rfl, rfl, rfl, by decide +kernel, rfl, by decide +kernel, by decide +kernel⟩
def t_Product_pays (K : PySem.W.Frag) : TS := (tRet (tAndV (tOp (rI0 fun i j => .bl (decide (i ≤ j))) (tFld K (tVar 0) "first") (tVar 1)) (tAndV (tOp (rI0 fun i j => .bl (decide (i ≤ j))) (tVar 1) (tFld K (tVar 0) "last")) (tOp rEq (tOp (rI (fun _ j => 0 < j) fun i j => .int (i % j)) (tOp (rI0 fun i j => .int (i - j)) (tVar 1) (tFld K (tVar 0) "first")) (tFld K (tVar 0) "step")) (tC (.int 0))))))
theorem w_Product_pays (T : Txt K mg) (cdv : Value) (A : Around) (outer : List Env) (s : Shared) (H : Hp) (E : XK) (hr : Room 0 (A.deeper (envOfC "Product.pays" (defScope s_Product_pays) s.heap.objs.size (He.fAd K ("Product", some "pays")) cdv))) :
    PSs (cxOf CX0 P w K mg base NL_Product_pays "Product.pays" (defScope s_Product_pays) (He.fAd K ("Product", some "pays")) cdv A outer s H E).nox (defBody s_Product_pays) (t_Product_pays K) := by
  exact (pss_one (ps_ret (pe_and (pe_cmpR op_le (pe_fld (pv 0) rfl) (pv 1) (nomark _)) (pe_and (pe_cmpR op_le (pv 1) (pe_fld (pv 0) rfl) (nomark _)) (pe_one (pe_cmpR op_eq (pe_op op_mod (pe_op op_sub (pv 1) (pe_fld (pv 0) rfl)) (pe_fld (pv 0) rfl)) (by exact pe_int) (nomark _)))))))
theorem pure_Product_pays (T : Txt K mg) (h : sp_Product_pays K vs H Q E) : t_Product_pays K { nx := fun _ H' => Q .non H', rt := Q } (start NL_Product_pays vs) H := by
  obtain ⟨A, p, l, rfl, hA, k⟩ := h
  have s1 := hA.ok.s1
  refine s_ret (ev_bl (ev_andV (ev_le (evP_first T (ev_var rfl) hA) (ev_var rfl)) fun h1 => ev_andV (ev_le (ev_var rfl) (evP_last T (ev_var rfl) hA)) fun h2 => ev_eqi (ev_mod (ev_sub (ev_var rfl) (evP_first T (ev_var rfl) hA)) (evP_step T (ev_var rfl) hA) (by omega)) ev_c) ?_) k
  unfold TimBuck.Product.has
  by_cases c : p.least ≤ l
  · rw [decide_eq_true (show (p.least : Int) ≤ (l : Int) by omega), decide_eq_true c, Bool.true_and, Bool.true_and]
    by_cases c2 : l ≤ p.most
    · rw [decide_eq_true (show (l : Int) ≤ (p.most : Int) by omega), decide_eq_true c2, Bool.true_and, Bool.true_and]
      have e : ((l : Int) - (p.least : Int)) % (p.step : Int) = (((l - p.least) % p.step : Nat) : Int) := by
        rw [← Int.ofNat_sub c]
        rfl
      rw [e]
      cases h : (l - p.least) % p.step with
      | zero => rfl
      | succ n => rfl
    · rw [decide_eq_false (show ¬ (l : Int) ≤ (p.most : Int) by omega), decide_eq_false c2]
      rfl
  · rw [decide_eq_false (show ¬ (p.least : Int) ≤ (l : Int) by omega), decide_eq_false c]
    rfl
theorem ok_Product_pays (T : Txt K mg) : Good P w K mg base ("Product", some "pays") 1 ["self", "length"] (sp_Product_pays K) :=
  good_mk (d := d_Product_pays) T 35 rfl rfl rfl sc_Product_pays (fun vs H Q E h => len_Product_pays h) (fun _ _ _ _ _ _ us hl => match us, hl with | [_, _], _ => rfl) (fun cdv A outer s H E hr => w_Product_pays T cdv A outer s H E hr) (fun vs H Q E h => pure_Product_pays T h)
theorem ev_pays {σ : L2.St} {ta tb : TE} {E' : XK} {A : PrA} {p : Product} {l : Nat} (h : Ev ta σ H (.ref A.p)) (hs : ProdAt K H A p) (h2 : Ev tb σ H (.int (l : Int))) : Ev (tMeth (He.ga K "Product") "pays" (sp_Product_pays K) [] E' ta (tCons tb tNil)) σ H (.bl (p.has l)) :=
  ev_methP h hs (prF_no (by decide +kernel)) (ea_cons h2 ea_nil) fun H1 e Q q _ => ⟨A, p, l, rfl, hs.mono e, q⟩
/-- the paid lengths, rising -/
def paidsL (p : Product) : List Nat := (List.range ((p.most - p.least) / p.step + 1)).map fun i => p.least + i * p.step
def sp_Product_paid_lengths (K : PySem.W.Frag) : Sp := fun vs H Q _ => ∃ (A : PrA) (p : Product), vs = [.ref A.p] ∧ ProdAt K H A p ∧ RetL ((paidsL p).map fun (n : Nat) => V.int (n : Int)) H Q
theorem len_Product_paid_lengths (h : sp_Product_paid_lengths K vs H Q E) : vs.length = 1 := by
  obtain ⟨a, b, rfl, _⟩ := h
  rfl
abbrev NL_Product_paid_lengths : List Str := ["self"]
theorem sc_Product_paid_lengths : FnScope NL_Product_paid_lengths ["self"] (defScope s_Product_paid_lengths) := ⟨rfl, rfl, rfl, by decide +kernel, rfl, by decide +kernel, by decide +kernel⟩
def t_Product_paid_lengths (K : PySem.W.Frag) : TS := (tRet (tLstRg3 (tCons (tFld K (tVar 0) "first") (tCons (tOp (rI0 fun i j => .int (i + j)) (tFld K (tVar 0) "last") (tC (.int 1))) (tCons (tFld K (tVar 0) "step") tNil)))))
theorem w_Product_paid_lengths (T : Txt K mg) (cdv : Value) (A : Around) (outer : List Env) (s : Shared) (H : Hp) (E : XK) (hr : Room 0 (A.deeper (envOfC "Product.paid_lengths" (defScope s_Product_paid_lengths) s.heap.objs.size (He.fAd K ("Product", some "paid_lengths")) cdv))) :
    PSs (cxOf CX0 P w K mg base NL_Product_paid_lengths "Product.paid_lengths" (defScope s_Product_paid_lengths) (He.fAd K ("Product", some "paid_lengths")) cdv A outer s H E).nox (defBody s_Product_paid_lengths) (t_Product_paid_lengths K) := by
  exact (pss_one (ps_ret (pe_listRg3 rfl rfl (T.free 85 rfl) rfl (T.free 79 rfl) (pa_cons (pe_fld (pv 0) rfl) (pa_cons (pe_op op_add (pe_fld (pv 0) rfl) (by exact pe_int)) (pa_cons (pe_fld (pv 0) rfl) pa_nil))))))
theorem pure_Product_paid_lengths (T : Txt K mg) (h : sp_Product_paid_lengths K vs H Q E) : t_Product_paid_lengths K { nx := fun _ H' => Q .non H', rt := Q } (start NL_Product_paid_lengths vs) H := by
  obtain ⟨A, p, rfl, hA, k⟩ := h
  obtain ⟨_, _, _, l100, le, m, _, s1, s2, dvd, cnt, _, _, _, _⟩ := hA.ok
  have z := el_rg3 (n := (p.most - p.least) / p.step + 1) (ea_cons (evP_first T (ev_var (i := 0) (σ := start NL_Product_paid_lengths [.ref A.p]) rfl) hA) (ea_cons (ev_add (evP_last T (ev_var (i := 0) rfl) hA) (ev_c (v := .int 1))) (ea_cons (evP_step T (ev_var (i := 0) rfl) hA) ea_nil))) (RgC_up' (by omega) (by omega) (by omega) (by omega) (by omega) (by omega) (by
    rw [if_pos (by omega)]
    rw [show (p.most : Int) + 1 - (p.least : Int) - 1 = ((p.most - p.least : Nat) : Int) by omega, ← Int.natCast_ediv]
    rfl)) (by omega)
  refine s_retL z fun q H1 hq e1 h1 => k q H1 hq e1 ?_
  rw [h1]
  unfold paidsL
  rw [List.map_map]
  congr 2
theorem ok_Product_paid_lengths (T : Txt K mg) : Good P w K mg base ("Product", some "paid_lengths") 1 ["self"] (sp_Product_paid_lengths K) :=
  good_mk (d := d_Product_paid_lengths) T 36 rfl rfl rfl sc_Product_paid_lengths (fun vs H Q E h => len_Product_paid_lengths h) (fun _ _ _ _ _ _ us hl => match us, hl with | [_], _ => rfl) (fun cdv A outer s H E hr => w_Product_paid_lengths T cdv A outer s H E hr) (fun vs H Q E h => pure_Product_paid_lengths T h)
/-! ## the price -/
theorem price_step (l : List (Nat × Nat)) (i d : Nat) (r : Nat × Nat) (h : l[i]? = some r) (f : Nat) (hf : f = (((l.take i).filter fun x => decide (x.1 ≤ d)).getLast?.map fun x => x.2).getD 0) :
    (if r.1 ≤ d then r.2 else f) = (((l.take (i + 1)).filter fun x => decide (x.1 ≤ d)).getLast?.map fun x => x.2).getD 0 := by
  rw [get_take h, List.filter_append, List.filter_cons]
  by_cases c : r.1 ≤ d
  · rw [if_pos c, if_pos (decide_eq_true c)]
    simp
  · rw [if_neg c, if_neg (by rw [decide_eq_false c]; decide), List.filter_nil, List.append_nil]
    exact hf
def sp_Product_price_at (K : PySem.W.Frag) : Sp := fun vs H Q _ => ∃ (A : PrA) (p : Product) (d : Nat), vs = [.ref A.p, .int (d : Int)] ∧ ProdAt K H A p ∧ ∀ H', Ex H H' → Q (.int ((p.price d : Nat) : Int)) H'
theorem len_Product_price_at (h : sp_Product_price_at K vs H Q E) : vs.length = 2 := by
  obtain ⟨a, b, c, rfl, _⟩ := h
  rfl
abbrev NL_Product_price_at : List Str := ["self", "middle", "found", "diameter", "price"]
theorem sc_Product_price_at : FnScope NL_Product_price_at ["self", "middle"] (defScope s_Product_price_at) := ⟨rfl, rfl, rfl, by decide +kernel, rfl, by decide +kernel, by decide +kernel⟩
def t_Product_price_at (K : PySem.W.Frag) : TS := (tSeq (tAsg (tC (.int 0)) (gName 2))
    (tSeq (tFor (iList K (tFld K (tVar 0) "prices")) (gTup K 2 (gCons (gName 3) (gCons (gName 4) gNil))) (tIfS (tTest (tOp (rI0 fun i j => .bl (decide (i ≤ j))) (tVar 3) (tVar 1))) (tAsg (tVar 4) (gName 2)) tNext))
    (tRet (tVar 2))))
theorem w_Product_price_at (T : Txt K mg) (cdv : Value) (A : Around) (outer : List Env) (s : Shared) (H : Hp) (E : XK) (hr : Room 0 (A.deeper (envOfC "Product.price_at" (defScope s_Product_price_at) s.heap.objs.size (He.fAd K ("Product", some "price_at")) cdv))) :
    PSs (cxOf CX0 P w K mg base NL_Product_price_at "Product.price_at" (defScope s_Product_price_at) (He.fAd K ("Product", some "price_at")) cdv A outer s H E).nox (defBody s_Product_price_at) (t_Product_price_at K) := by
  exact (pss_cons (ps_set (i := 2) sc_Product_price_at.nd rfl (.inl rfl) (by exact pe_int))
    (pss_cons (ps_for PassesOwn.never rfl (pi_list (pe_fld (pv 0) rfl)) (pg_tup rfl (pgs_cons (pg_name (i := 3) sc_Product_price_at.nd rfl (.inl rfl)) (pgs_cons (pg_name (i := 4) sc_Product_price_at.nd rfl (.inl rfl)) pgs_nil))) (pss_one (ps_if (pt_cmpR op_le (pv 3) (pv 1) (nomark _)) (pss_one (ps_set (i := 2) sc_Product_price_at.nd rfl (.inl rfl) (pv 4))) pss_nil)))
    (pss_one (ps_ret (pv 2)))))
theorem pure_Product_price_at (T : Txt K mg) (h : sp_Product_price_at K vs H Q E) : t_Product_price_at K { nx := fun _ H' => Q .non H', rt := Q } (start NL_Product_price_at vs) H := by
  obtain ⟨A, p, d, rfl, hA, k⟩ := h
  refine q_asg ev_c fun H1 e1 => ?_
  refine q_forTup (H0 := H) (evP_prices T (ev_var rfl) (hA.mono e1)) (sq_of hA.pri) hA.prT (fun i σ' H' => ∃ (f : Nat) (u v : Option V), σ' = [some (.ref A.p), some (.int (d : Int)), some (.int (f : Int)), u, v] ∧ f = (((p.prices.take i).filter fun x => decide (x.1 ≤ d)).getLast?.map fun x => x.2).getD 0 ∧ Ex H H')
    (fun H2 e2 => ⟨0, none, none, rfl, rfl, e1.trans e2⟩) (fun i σ' H' ⟨_, _, _, _, _, e⟩ => e) ?_ ?_
  · rintro i ks σ' H' hk ⟨f, u, v, rfl, hf, e⟩
    obtain ⟨r, hr, rfl⟩ := map_at hk
    refine ⟨rfl, _, _, rfl, _, _, rfl, rfl, ?_⟩
    show tIfS _ _ _ _ [some (.ref A.p), some (.int (d : Int)), some (.int (f : Int)), some (.int (r.1 : Int)), some (.int (r.2 : Int))] H'
    have z := price_step p.prices i d r hr f hf
    refine s_when (et_test (ev_le (ev_var rfl) (ev_var rfl))) (fun hb H2 e2 => s_asg (ev_var rfl) fun H3 e3 => ⟨r.2, _, _, rfl, ?_, (e.trans e2).trans e3⟩) (fun hb H2 e2 => ⟨f, _, _, rfl, ?_, e.trans e2⟩)
    · rw [if_pos (by have := of_decide_eq_true hb; omega)] at z
      exact z
    · rw [if_neg (by have := of_decide_eq_false hb; omega)] at z
      exact z
  · rintro σ' H' ⟨f, u, v, rfl, hf, e⟩
    rw [List.length_map, List.take_length] at hf
    refine s_ret (ev_var rfl) fun H2 e2 => ?_
    have z := k H2 (e.trans e2)
    unfold TimBuck.Product.price at z
    rw [← hf] at z
    exact z
theorem ok_Product_price_at (T : Txt K mg) : Good P w K mg base ("Product", some "price_at") 1 ["self", "middle"] (sp_Product_price_at K) :=
  good_mk (d := d_Product_price_at) T 37 rfl rfl rfl sc_Product_price_at (fun vs H Q E h => len_Product_price_at h) (fun _ _ _ _ _ _ us hl => match us, hl with | [_, _], _ => rfl) (fun cdv A outer s H E hr => w_Product_price_at T cdv A outer s H E hr) (fun vs H Q E h => pure_Product_price_at T h)
theorem ev_price {σ : L2.St} {ta tb : TE} {E' : XK} {A : PrA} {p : Product} {d : Nat} (h : Ev ta σ H (.ref A.p)) (hs : ProdAt K H A p) (h2 : Ev tb σ H (.int (d : Int))) : Ev (tMeth (He.ga K "Product") "price_at" (sp_Product_price_at K) [] E' ta (tCons tb tNil)) σ H (.int ((p.price d : Nat) : Int)) :=
  ev_methP h hs (prF_no (by decide +kernel)) (ea_cons h2 ea_nil) fun H1 e Q q _ => ⟨A, p, d, rfl, hs.mono e, q⟩
end
end Sb
end
section
set_option maxHeartbeats 4000000
namespace Sb
open PySem PySem.Spec PySem.Calls PyProof.Rows L2 Evl
open TimBuck (Stem Product Piece diameterIn)
theorem any_take_succ {α : Type} {f : α → Bool} {l : List α} {i : Nat} {x : α} (h : l[i]? = some x) : (l.take (i + 1)).any f = ((l.take i).any f || f x) := by
  rw [get_take h, List.any_append, List.any_cons, List.any_nil, Bool.or_false]
section
variable {P : Program} {w : World} {K : PySem.W.Frag} {mg : Str → Option Value} {base : Heap} {vs : List V} {H : Hp} {Q : VK} {E : XK}
/-! ## crooks -/
def crookF (a b t : Nat) (c : Nat × Nat) : Bool := decide (a < c.1) && (decide (c.1 < b) && decide (c.2 < t))
def sp_is_too_crooked (K : PySem.W.Frag) : Sp := fun vs H Q _ => ∃ (aC : Addr) (ts : List Addr) (cs : List (Nat × Nat)) (a t : Nat), vs = [.ref aC, .int (a : Int), .int ((a + t : Nat) : Int)] ∧ SqL K H aC (ts.map V.ref) ∧ Tups K H ts (cs.map encP) ∧ ∀ H', Ex H H' → Q (.bl (cs.any (crookF a (a + t) t))) H'
theorem len_is_too_crooked (h : sp_is_too_crooked K vs H Q E) : vs.length = 3 := by
  obtain ⟨a, b, c, d, e, rfl, _⟩ := h
  rfl
abbrev NL_is_too_crooked : List Str := ["crooks", "height", "end", "x", "most"]
theorem sc_is_too_crooked : FnScope NL_is_too_crooked ["crooks", "height", "end"] (defScope s_is_too_crooked) := ⟨rfl, rfl, rfl, by decide +kernel, rfl, by decide +kernel, by decide +kernel⟩
def t_is_too_crooked (K : PySem.W.Frag) : TS := (tSeq (tFor (iList K (tVar 0)) (gTup K 2 (gCons (gName 3) (gCons (gName 4) gNil))) (tIfS (tAnd (tTest (tOp (rI0 fun i j => .bl (decide (i < j))) (tVar 1) (tVar 3))) (tAnd (tTest (tOp (rI0 fun i j => .bl (decide (i < j))) (tVar 3) (tVar 2))) (tTest (tOp (rI0 fun i j => .bl (decide (j < i))) (tOp (rI0 fun i j => .int (i - j)) (tVar 2) (tVar 1)) (tVar 4))))) (tRet (tC (.bl true))) tNext))
    (tRet (tC (.bl false))))
theorem w_is_too_crooked (T : Txt K mg) (cdv : Value) (A : Around) (outer : List Env) (s : Shared) (H : Hp) (E : XK) (hr : Room 0 (A.deeper (envOfC "is_too_crooked" (defScope s_is_too_crooked) s.heap.objs.size (He.fAd K ("is_too_crooked", none)) cdv))) :
    PSs (cxOf CX0 P w K mg base NL_is_too_crooked "is_too_crooked" (defScope s_is_too_crooked) (He.fAd K ("is_too_crooked", none)) cdv A outer s H E).nox (defBody s_is_too_crooked) (t_is_too_crooked K) := by
  exact (pss_cons (ps_for PassesOwn.never rfl (pi_list (pv 0)) (pg_tup rfl (pgs_cons (pg_name (i := 3) sc_is_too_crooked.nd rfl (.inl rfl)) (pgs_cons (pg_name (i := 4) sc_is_too_crooked.nd rfl (.inl rfl)) pgs_nil))) (pss_one (ps_if (PW.pt (pw_and (pt_cmpR op_lt (pv 1) (pv 3) (nomark _)) (pw_and (pt_cmpR op_lt (pv 3) (pv 2) (nomark _)) (pw_and1 (pt_cmpR op_gt (pe_op op_sub (pv 2) (pv 1)) (pv 4) (nomark _)))))) (pss_one (ps_ret (by exact pe_bl))) pss_nil)))
    (pss_one (ps_ret (by exact pe_bl))))
theorem pure_is_too_crooked (T : Txt K mg) (h : sp_is_too_crooked K vs H Q E) : t_is_too_crooked K { nx := fun _ H' => Q .non H', rt := Q } (start NL_is_too_crooked vs) H := by
  obtain ⟨aC, ts, cs, a, t, rfl, hC, hT, k⟩ := h
  refine q_forTup (H0 := H) (ev_var rfl) hC hT (fun i σ' H' => ∃ (u v : Option V), σ' = [some (.ref aC), some (.int (a : Int)), some (.int ((a + t : Nat) : Int)), u, v] ∧ (cs.take i).any (crookF a (a + t) t) = false ∧ Ex H H')
    (fun H2 e2 => ⟨none, none, rfl, rfl, e2⟩) (fun i σ' H' ⟨_, _, _, _, e⟩ => e) ?_ ?_
  · rintro i ks σ' H' hk ⟨u, v, rfl, hf, e⟩
    obtain ⟨r, hr, rfl⟩ := map_at hk
    refine ⟨rfl, _, _, rfl, _, _, rfl, rfl, ?_⟩
    show tIfS _ _ _ _ [some (.ref aC), some (.int (a : Int)), some (.int ((a + t : Nat) : Int)), some (.int (r.1 : Int)), some (.int (r.2 : Int))] H'
    have ez : (decide ((a : Int) < (r.1 : Int)) && (decide ((r.1 : Int) < ((a + t : Nat) : Int)) && decide ((r.2 : Int) < ((a + t : Nat) : Int) - (a : Int)))) = crookF a (a + t) t r := by
      unfold crookF
      congr 1
      · exact decide_eq_decide.mpr (by omega)
      · congr 1
        · exact decide_eq_decide.mpr (by omega)
        · exact decide_eq_decide.mpr (by omega)
    refine s_when (et_is (et_and (et_test (ev_lt (ev_var rfl) (ev_var rfl))) fun _ => et_and (et_test (ev_lt (ev_var rfl) (ev_var rfl))) fun _ => et_test (ev_gt (ev_sub (ev_var rfl) (ev_var rfl)) (ev_var rfl))) ez) (fun hb H2 e2 => s_ret ev_c fun H3 e3 => ?_) (fun hb H2 e2 => ⟨_, _, rfl, ?_, e.trans e2⟩)
    · have z := k H3 ((e.trans e2).trans e3)
      rw [List.any_eq_true.mpr ⟨r, List.mem_of_getElem? hr, hb⟩] at z
      exact z
    · rw [any_take_succ hr, hf, hb]
      rfl
  · rintro σ' H' ⟨u, v, rfl, hf, e⟩
    rw [List.length_map, List.take_length] at hf
    refine s_ret ev_c fun H2 e2 => ?_
    have z := k H2 (e.trans e2)
    rw [hf] at z
    exact z
theorem ok_is_too_crooked (T : Txt K mg) : Good P w K mg base ("is_too_crooked", none) 1 ["crooks", "height", "end"] (sp_is_too_crooked K) :=
  good_mk (d := d_is_too_crooked) T 38 rfl rfl rfl sc_is_too_crooked (fun vs H Q E h => len_is_too_crooked h) (fun _ _ _ _ _ _ us hl => match us, hl with | [_, _, _], _ => rfl) (fun cdv A outer s H E hr => w_is_too_crooked T cdv A outer s H E hr) (fun vs H Q E h => pure_is_too_crooked T h)
/-! ## against -/
theorem against_eq (s : Stem) (p : Product) (a l : Nat) : TimBuck.against s p a l = if p.has l = false then 1 else if a < s.foot ∨ s.top < a + l + p.over then 2 else if s.rotten a (a + l + p.over) = true then 3 else if p.grade < s.grade a (a + l + p.over) then 4
    else if s.crooks.any (crookF a (a + l + p.over) (l + p.over)) = true then 5 else if s.diameter (a + l) < p.top then 6 else if p.butt < s.diameter a then 7 else 0 := rfl
def sp_against (K : PySem.W.Frag) : Sp := fun vs H Q _ => ∃ (A : StA) (B : PrA) (s : Stem) (p : Product) (a l : Nat), vs = [.ref A.s, .ref B.p, .int (a : Int), .int (l : Int)] ∧ StemAt K H A s ∧ ProdAt K H B p ∧ (a % 10 = 0 ∧ l % 10 = 0 ∧ 10 ≤ l) ∧ ∀ H', Ex H H' → Q (.int ((TimBuck.against s p a l : Nat) : Int)) H'
theorem len_against (h : sp_against K vs H Q E) : vs.length = 4 := by
  obtain ⟨a, b, c, d, e, f, rfl, _⟩ := h
  rfl
abbrev NL_against : List Str := ["stem", "product", "height", "paid", "end"]
theorem sc_against : FnScope NL_against ["stem", "product", "height", "paid"] (defScope s_against) := ⟨rfl, rfl, rfl, by decide +kernel, rfl, by decide +kernel, by decide +kernel⟩
def t_against (K : PySem.W.Frag) : TS := (tSeq (tAsg (tOp (rI0 fun i j => .int (i + j)) (tOp (rI0 fun i j => .int (i + j)) (tVar 2) (tVar 3)) (tFld K (tVar 1) "over")) (gName 4))
    (tSeq (tIfS (tNot (tB (tMeth (He.ga K "Product") "pays" (sp_Product_pays K) [] E0 (tVar 1) (tCons (tVar 3) tNil)))) (tRet (tC (.int 1))) tNext)
    (tSeq (tIfS (tOr (tTest (tOp (rI0 fun i j => .bl (decide (i < j))) (tVar 2) (tMeth (He.ga K "Stem") "foot" (sp_Stem_foot K) [] E0 (tVar 0) tNil))) (tTest (tOp (rI0 fun i j => .bl (decide (j < i))) (tVar 4) (tFld K (tVar 0) "top")))) (tRet (tC (.int 2))) tNext)
    (tSeq (tIfS (tB (tMeth (He.ga K "Stem") "has_rot" (sp_Stem_has_rot K) [] E0 (tVar 0) (tCons (tVar 2) (tCons (tVar 4) tNil)))) (tRet (tC (.int 3))) tNext)
    (tSeq (tIfS (tTest (tOp (rI0 fun i j => .bl (decide (j < i))) (tMeth (He.ga K "Stem") "worst_grade" (sp_Stem_worst_grade K) [] E0 (tVar 0) (tCons (tVar 2) (tCons (tVar 4) tNil))) (tFld K (tVar 1) "grade"))) (tRet (tC (.int 4))) tNext)
    (tSeq (tIfS (tB (tCall (sp_is_too_crooked K) [] E0 (tCons (tFld K (tVar 0) "crooks") (tCons (tVar 2) (tCons (tVar 4) tNil))))) (tRet (tC (.int 5))) tNext)
    (tSeq (tIfS (tTest (tOp (rI0 fun i j => .bl (decide (i < j))) (tMeth (He.ga K "Stem") "width" (sp_Stem_width K) [] E0 (tVar 0) (tCons (tOp (rI0 fun i j => .int (i + j)) (tVar 2) (tVar 3)) tNil)) (tFld K (tVar 1) "least_top"))) (tRet (tC (.int 6))) tNext)
    (tSeq (tIfS (tTest (tOp (rI0 fun i j => .bl (decide (j < i))) (tMeth (He.ga K "Stem") "width" (sp_Stem_width K) [] E0 (tVar 0) (tCons (tVar 2) tNil)) (tFld K (tVar 1) "greatest_butt"))) (tRet (tC (.int 7))) tNext)
    (tRet (tC (.int 0)))))))))))
theorem w_against (T : Txt K mg) (cdv : Value) (A : Around) (outer : List Env) (s : Shared) (H : Hp) (E : XK) (hr : Room 1 (A.deeper (envOfC "against" (defScope s_against) s.heap.objs.size (He.fAd K ("against", none)) cdv))) :
    PSs (cxOf CX0 P w K mg base NL_against "against" (defScope s_against) (He.fAd K ("against", none)) cdv A outer s H E).nox (defBody s_against) (t_against K) := by
  exact (pss_cons (ps_set (i := 4) sc_against.nd rfl (.inl rfl) (pe_op op_add (pe_op op_add (pv 2) (pv 3)) (pe_fld (pv 1) rfl)))
    (pss_cons (ps_if (pt_not (pt_val (pe_methG (pv 1) (T.cls 120 rfl) (T.meth 131 rfl) (ok_Product_pays T) (hr.mono (by decide)) (pa_cons (pv 3) pa_nil)))) (pss_one (ps_ret (by exact pe_int))) pss_nil)
    (pss_cons (ps_if (PW.pt (pw_or (pt_cmpR op_lt (pv 2) (pe_methG0 (pv 0) (T.cls 101 rfl) (T.meth 110 rfl) (ok_Stem_foot T) (hr.mono (by decide))) (nomark _)) (pw_or1 (pt_cmpR op_gt (pv 4) (pe_fld (pv 0) rfl) (nomark _))))) (pss_one (ps_ret (by exact pe_int))) pss_nil)
    (pss_cons (ps_if (pt_val (pe_methG (pv 0) (T.cls 101 rfl) (T.meth 113 rfl) (ok_Stem_has_rot T) (hr.mono (by decide)) (pa_cons (pv 2) (pa_cons (pv 4) pa_nil)))) (pss_one (ps_ret (by exact pe_int))) pss_nil)
    (pss_cons (ps_if (pt_cmpR op_gt (pe_methG (pv 0) (T.cls 101 rfl) (T.meth 112 rfl) (ok_Stem_worst_grade T) (hr.mono (by decide)) (pa_cons (pv 2) (pa_cons (pv 4) pa_nil))) (pe_fld (pv 1) rfl) (nomark _)) (pss_one (ps_ret (by exact pe_int))) pss_nil)
    (pss_cons (ps_if (pt_val (pe_callG (ok_is_too_crooked T) (hr.mono (by decide)) rfl (T.glo 24 rfl) (pa_cons (pe_fld (pv 0) rfl) (pa_cons (pv 2) (pa_cons (pv 4) pa_nil))))) (pss_one (ps_ret (by exact pe_int))) pss_nil)
    (pss_cons (ps_if (pt_cmpR op_lt (pe_methG (pv 0) (T.cls 101 rfl) (T.meth 111 rfl) (ok_Stem_width T) (hr.mono (by decide)) (pa_cons (pe_op op_add (pv 2) (pv 3)) pa_nil)) (pe_fld (pv 1) rfl) (nomark _)) (pss_one (ps_ret (by exact pe_int))) pss_nil)
    (pss_cons (ps_if (pt_cmpR op_gt (pe_methG (pv 0) (T.cls 101 rfl) (T.meth 111 rfl) (ok_Stem_width T) (hr.mono (by decide)) (pa_cons (pv 2) pa_nil)) (pe_fld (pv 1) rfl) (nomark _)) (pss_one (ps_ret (by exact pe_int))) pss_nil)
    (pss_one (ps_ret (by exact pe_int)))))))))))
theorem pure_against (T : Txt K mg) (h : sp_against K vs H Q E) : t_against K { nx := fun _ H' => Q .non H', rt := Q } (start NL_against vs) H := by
  obtain ⟨A, B, s, p, a, l, rfl, hs, hp, ⟨ha, hl, hl1⟩, k⟩ := h
  have kk : ∀ {n : Nat} {H'}, TimBuck.against s p a l = n → Ex H H' → Q (.int (n : Int)) H' := fun {n H'} z e => by
    rw [← z]
    exact k H' e
  have o10 := hp.ok.o10
  have eb : (a : Int) + (l : Int) + (p.over : Int) = ((a + l + p.over : Nat) : Int) := by omega
  refine q_asg (ev_int (ev_add (ev_add (ev_var rfl) (ev_var rfl)) (evP_over T (ev_var rfl) hp)) eb) fun H1 e1 => ?_
  have hs1 := hs.mono e1
  have hp1 := hp.mono e1
  refine q_when (et_not (et_B (ev_pays (ev_var rfl) hp1 (ev_var rfl)))) (fun hb H2 e2 => s_ret ev_c fun H3 e3 => kk (n := 1) ?_ ((e1.trans e2).trans e3)) (fun hb H2 e2 => ?_)
  · rw [against_eq, if_pos (by simpa using hb)]
  have h1 : ¬ p.has l = false := by simpa using hb
  replace hs1 := hs1.mono e2
  replace hp1 := hp1.mono e2
  replace e1 := e1.trans e2
  clear hb e2
  refine q_when (et_or (et_test (ev_lt (ev_var rfl) (ev_S0 (ev_var rfl) hs1 (stF_no (by decide +kernel))))) fun _ => et_test (ev_gt (ev_var rfl) (evS_top T (ev_var rfl) hs1))) (fun hb H2 e2 => s_ret ev_c fun H3 e3 => kk (n := 2) ?_ ((e1.trans e2).trans e3)) (fun hb H2 e2 => ?_)
  · rw [against_eq, if_neg h1, if_pos]
    rw [Bool.or_eq_true, decide_eq_true_eq, decide_eq_true_eq] at hb
    omega
  have h2 : ¬ (a < s.foot ∨ s.top < a + l + p.over) := by
    rw [Bool.or_eq_false_iff, decide_eq_false_iff_not, decide_eq_false_iff_not] at hb
    omega
  replace hs1 := hs1.mono e2
  replace hp1 := hp1.mono e2
  replace e1 := e1.trans e2
  clear hb e2
  have hc : Cells s a (a + l + p.over) := ⟨ha, by omega, by omega, by omega⟩
  refine q_when (et_B (ev_S2 (ev_var rfl) hs1 (stF_no (by decide +kernel)) (ev_var rfl) (ev_var rfl) hc)) (fun hb H2 e2 => s_ret ev_c fun H3 e3 => kk (n := 3) ?_ ((e1.trans e2).trans e3)) (fun hb H2 e2 => ?_)
  · rw [against_eq, if_neg h1, if_neg h2, if_pos hb]
  have h3 : ¬ s.rotten a (a + l + p.over) = true := by rw [hb]; decide
  replace hs1 := hs1.mono e2
  replace hp1 := hp1.mono e2
  replace e1 := e1.trans e2
  clear hb e2
  refine q_when (et_test (ev_gt (ev_S2 (ev_var rfl) hs1 (stF_no (by decide +kernel)) (ev_var rfl) (ev_var rfl) hc) (evP_grade T (ev_var rfl) hp1))) (fun hb H2 e2 => s_ret ev_c fun H3 e3 => kk (n := 4) ?_ ((e1.trans e2).trans e3)) (fun hb H2 e2 => ?_)
  · have := of_decide_eq_true hb
    rw [against_eq, if_neg h1, if_neg h2, if_neg h3, if_pos (by omega)]
  have h4 : ¬ p.grade < s.grade a (a + l + p.over) := by
    have := of_decide_eq_false hb
    omega
  replace hs1 := hs1.mono e2
  replace hp1 := hp1.mono e2
  replace e1 := e1.trans e2
  clear hb e2
  have hcr : Ev (tCall (sp_is_too_crooked K) [] E0 (tCons (tFld K (tVar 0) "crooks") (tCons (tVar 2) (tCons (tVar 4) tNil)))) [some (.ref A.s), some (.ref B.p), some (.int (a : Int)), some (.int (l : Int)), some (.int ((a + l + p.over : Nat) : Int))] H2 (.bl (s.crooks.any (crookF a (a + l + p.over) (l + p.over)))) :=
    ev_call (ea_cons (evS_crooks T (ev_var rfl) hs1) (ea_cons (ev_var rfl) (ea_cons (ev_var rfl) ea_nil))) fun H3 e3 Q' q _ => ⟨A.aC, A.tC, s.crooks, a, l + p.over, by rw [← Nat.add_assoc]; rfl, sq_of (e3 _ _ hs1.cro), tups_ex e3 hs1.crT, by rw [← Nat.add_assoc]; exact q⟩
  refine q_when (et_B hcr) (fun hb H3 e2 => s_ret ev_c fun H4 e3 => kk (n := 5) ?_ ((e1.trans e2).trans e3)) (fun hb H3 e2 => ?_)
  · rw [against_eq, if_neg h1, if_neg h2, if_neg h3, if_neg h4, if_pos hb]
  have h5 : ¬ s.crooks.any (crookF a (a + l + p.over) (l + p.over)) = true := by rw [hb]; decide
  replace hs1 := hs1.mono e2
  replace hp1 := hp1.mono e2
  replace e1 := e1.trans e2
  clear hcr hb e2
  refine q_when (et_test (ev_lt (ev_S1 (x := a + l) (ev_var rfl) hs1 (stF_no (by decide +kernel)) (ev_int (ev_add (ev_var rfl) (ev_var rfl)) (by omega)) ⟨by omega, by omega⟩) (evP_least_top T (ev_var rfl) hp1))) (fun hb H4 e2 => s_ret ev_c fun H5 e3 => kk (n := 6) ?_ ((e1.trans e2).trans e3)) (fun hb H4 e2 => ?_)
  · have := of_decide_eq_true hb
    rw [against_eq, if_neg h1, if_neg h2, if_neg h3, if_neg h4, if_neg h5, if_pos (by omega)]
  have h6 : ¬ s.diameter (a + l) < p.top := by
    have := of_decide_eq_false hb
    omega
  replace hs1 := hs1.mono e2
  replace hp1 := hp1.mono e2
  replace e1 := e1.trans e2
  clear hb e2
  refine q_when (et_test (ev_gt (ev_S1 (x := a) (ev_var rfl) hs1 (stF_no (by decide +kernel)) (ev_var rfl) ⟨by omega, by omega⟩) (evP_greatest_butt T (ev_var rfl) hp1))) (fun hb H5 e2 => s_ret ev_c fun H6 e3 => kk (n := 7) ?_ ((e1.trans e2).trans e3)) (fun hb H5 e2 => s_ret ev_c fun H6 e3 => kk (n := 0) ?_ ((e1.trans e2).trans e3))
  · have := of_decide_eq_true hb
    rw [against_eq, if_neg h1, if_neg h2, if_neg h3, if_neg h4, if_neg h5, if_neg h6, if_pos (by omega)]
  · have := of_decide_eq_false hb
    rw [against_eq, if_neg h1, if_neg h2, if_neg h3, if_neg h4, if_neg h5, if_neg h6, if_neg (by omega)]
theorem ok_against (T : Txt K mg) : Good P w K mg base ("against", none) 2 ["stem", "product", "height", "paid"] (sp_against K) :=
  good_mk (d := d_against) T 39 rfl rfl rfl sc_against (fun vs H Q E h => len_against h) (fun _ _ _ _ _ _ us hl => match us, hl with | [_, _, _, _], _ => rfl) (fun cdv A outer s H E hr => w_against T cdv A outer s H E hr) (fun vs H Q E h => pure_against T h)
theorem ev_against {σ : L2.St} {ta tb tc td : TE} {E' : XK} {A : StA} {B : PrA} {s : Stem} {p : Product} {a l : Nat} (h1 : Ev ta σ H (.ref A.s)) (h2 : Ev tb σ H (.ref B.p)) (h3 : Ev tc σ H (.int (a : Int))) (h4 : Ev td σ H (.int (l : Int))) (hs : StemAt K H A s) (hp : ProdAt K H B p) (hc : a % 10 = 0 ∧ l % 10 = 0 ∧ 10 ≤ l) :
    Ev (tCall (sp_against K) [] E' (tCons ta (tCons tb (tCons tc (tCons td tNil))))) σ H (.int ((TimBuck.against s p a l : Nat) : Int)) := ev_call (ea_cons h1 (ea_cons h2 (ea_cons h3 (ea_cons h4 ea_nil)))) fun H1 e Q q _ => ⟨A, B, s, p, a, l, rfl, hs.mono e, hp.mono e, hc, q⟩
/-! ## worth -/
theorem price_le {p : Product} (h : ProdOk p) (d : Nat) : p.price d ≤ 10000000 := by
  unfold TimBuck.Product.price
  cases e : (p.prices.filter fun x => decide (x.1 ≤ d)).getLast? with
  | none => exact Nat.zero_le _
  | some r =>
    have hm : r ∈ p.prices := (List.mem_filter.mp (List.mem_of_getLast? e)).1
    exact h.pp r hm
theorem parts_le {d l : Nat} (hd : d ≤ 2000) (hl : l ≤ 2000) : TimBase.parts d l ≤ 62832000000000 := by
  unfold TimBase.parts
  exact Nat.mul_le_mul (Nat.mul_le_mul (Nat.mul_le_mul (Nat.le_refl 7854) hd) hd) hl
def sp_worth_of (K : PySem.W.Frag) : Sp := fun vs H Q _ => ∃ (A : StA) (B : PrA) (s : Stem) (p : Product) (a l : Nat), vs = [.ref A.s, .ref B.p, .int (a : Int), .int (l : Int)] ∧ StemAt K H A s ∧ ProdAt K H B p ∧ (a % 10 = 0 ∧ l % 10 = 0 ∧ a + l ≤ s.top) ∧ ∀ H', Ex H H' → Q (.int ((TimBuck.worth s p a l : Nat) : Int)) H'
theorem len_worth_of (h : sp_worth_of K vs H Q E) : vs.length = 4 := by
  obtain ⟨a, b, c, d, e, f, rfl, _⟩ := h
  rfl
abbrev NL_worth_of : List Str := ["stem", "product", "height", "paid", "middle"]
theorem sc_worth_of : FnScope NL_worth_of ["stem", "product", "height", "paid"] (defScope s_worth_of) := ⟨rfl, rfl, rfl, by decide +kernel, rfl, by decide +kernel, by decide +kernel⟩
def t_worth_of (K : PySem.W.Frag) : TS := (tSeq (tAsg (tMeth (He.ga K "Stem") "width" (sp_Stem_width K) [] E0 (tVar 0) (tCons (tOp (rI0 fun i j => .int (i + j)) (tVar 2) (tOp (rI CDiv fun i j => .int (i / j)) (tVar 3) (tC (.int 2)))) tNil)) (gName 4))
    (tRet (tOp (rI CDivW fun i j => .int (i / j)) (tOp (rI CMul fun i j => .int (i * j)) (tMeth (He.ga K "Product") "price_at" (sp_Product_price_at K) [] E0 (tVar 1) (tCons (tVar 4) tNil)) (tCall (sp_parts_of K) [] E0 (tCons (tVar 4) (tCons (tVar 3) tNil)))) (tC (.int (1000000000000))))))
theorem w_worth_of (T : Txt K mg) (cdv : Value) (A : Around) (outer : List Env) (s : Shared) (H : Hp) (E : XK) (hr : Room 1 (A.deeper (envOfC "worth_of" (defScope s_worth_of) s.heap.objs.size (He.fAd K ("worth_of", none)) cdv))) :
    PSs (cxOf CX0 P w K mg base NL_worth_of "worth_of" (defScope s_worth_of) (He.fAd K ("worth_of", none)) cdv A outer s H E).nox (defBody s_worth_of) (t_worth_of K) := by
  exact (pss_cons (ps_set (i := 4) sc_worth_of.nd rfl (.inl rfl) (pe_methG (pv 0) (T.cls 101 rfl) (T.meth 111 rfl) (ok_Stem_width T) (hr.mono (by decide)) (pa_cons (pe_op op_add (pv 2) (pe_op op_fdiv (pv 3) (by exact pe_int))) pa_nil)))
    (pss_one (ps_ret (pe_op op_fdivW (pe_op op_mul (pe_methG (pv 1) (T.cls 120 rfl) (T.meth 133 rfl) (ok_Product_price_at T) (hr.mono (by decide)) (pa_cons (pv 4) pa_nil)) (pe_callG (ok_parts_of T) (hr.mono (by decide)) rfl (T.glo 21 rfl) (pa_cons (pv 4) (pa_cons (pv 3) pa_nil)))) (pe_gi rfl (T.int 96 rfl))))))
theorem pure_worth_of (T : Txt K mg) (h : sp_worth_of K vs H Q E) : t_worth_of K { nx := fun _ H' => Q .non H', rt := Q } (start NL_worth_of vs) H := by
  obtain ⟨A, B, s, p, a, l, rfl, hs, hp, ⟨ha, hl, ht⟩, k⟩ := h
  have t2 := hs.ok.topLe
  refine q_asg (ev_S1 (x := a + l / 2) (ev_var rfl) hs (stF_no (by decide +kernel)) (ev_int (ev_add (ev_var rfl) (ev_div (ev_var rfl) ev_c (by decide))) (by omega)) ⟨by omega, by omega⟩) fun H1 e1 => ?_
  have hd : s.diameter (a + l / 2) ≤ 2000 := hs.ok.dia (by omega)
  have h1 := price_le hp.ok (s.diameter (a + l / 2))
  refine s_ret (ev_int (ev_divW (ev_mul (ev_price (ev_var rfl) (hp.mono e1) (ev_var rfl)) (ev_parts_of (ev_var rfl) (ev_var rfl) hd (by omega)) (.inl (by omega))) ev_c (wide_div (b := 40) (by decide) (by decide) (by decide) (by decide))) ?_) fun H2 e2 => k H2 (e1.trans e2)
  unfold TimBuck.worth
  rw [Int.natCast_ediv, Int.natCast_mul]
  rfl
theorem ok_worth_of (T : Txt K mg) : Good P w K mg base ("worth_of", none) 2 ["stem", "product", "height", "paid"] (sp_worth_of K) :=
  good_mk (d := d_worth_of) T 40 rfl rfl rfl sc_worth_of (fun vs H Q E h => len_worth_of h) (fun _ _ _ _ _ _ us hl => match us, hl with | [_, _, _, _], _ => rfl) (fun cdv A outer s H E hr => w_worth_of T cdv A outer s H E hr) (fun vs H Q E h => pure_worth_of T h)
theorem ev_worth {σ : L2.St} {ta tb tc td : TE} {E' : XK} {A : StA} {B : PrA} {s : Stem} {p : Product} {a l : Nat} (h1 : Ev ta σ H (.ref A.s)) (h2 : Ev tb σ H (.ref B.p)) (h3 : Ev tc σ H (.int (a : Int))) (h4 : Ev td σ H (.int (l : Int))) (hs : StemAt K H A s) (hp : ProdAt K H B p) (hc : a % 10 = 0 ∧ l % 10 = 0 ∧ a + l ≤ s.top) :
    Ev (tCall (sp_worth_of K) [] E' (tCons ta (tCons tb (tCons tc (tCons td tNil))))) σ H (.int ((TimBuck.worth s p a l : Nat) : Int)) := ev_call (ea_cons h1 (ea_cons h2 (ea_cons h3 (ea_cons h4 ea_nil)))) fun H1 e Q q _ => ⟨A, B, s, p, a, l, rfl, hs.mono e, hp.mono e, hc, q⟩
theorem worth_le {s : Stem} {p : Product} {a l : Nat} (hs : StemOk s) (hp : ProdOk p) (ht : a + l ≤ s.top) : TimBuck.worth s p a l ≤ 628320000 := by
  have t2 := hs.topLe
  have h1 := price_le hp (s.diameter (a + l / 2))
  have h2 := parts_le (hs.dia (x := a + l / 2) (by omega)) (show l ≤ 2000 by omega)
  unfold TimBuck.worth
  have := Nat.mul_le_mul h1 h2
  omega
end
end Sb
end
section
set_option maxHeartbeats 4000000
namespace Sb
open PySem PySem.Spec PySem.Calls PyProof.Rows L2 Evl
open TimBuck (Stem Product Piece diameterIn Log Step)
section
variable {K : PySem.W.Frag} {σ : L2.St} {H : Hp} {D : Ends} {tu tz : TS} {te tl : TE}
/-- over enumerate(a list) -/
theorem s_forEn {ta : TA} {a : Addr} {xs : List V} {gs : TGs} {H0 : Hp} (h : EvA ta σ H [.ref a]) (hx : SqL K H0 a xs) (Pv : Nat → L2.St → Hp → Prop) (h0 : ∀ H1, Ex H H1 → Pv 0 σ H1) (ex : ∀ i σ' H', Pv i σ' H' → Ex H0 H')
    (hs : ∀ i x σ' H' H1, xs[i]? = some x → Pv i σ' H' → Ex H' H1 → gs [.int (i : Int), x] σ' H1 fun σ2 H2 => tu { D with nx := Pv (i + 1), ct := Pv (i + 1), bk := D.nx } σ2 H2) (hd : ∀ σ' H', Pv xs.length σ' H' → D.nx σ' H') : tFor (iEnum K ta) (gTup K 2 gs) tu D σ H :=
  h H (Ex.refl H) _ fun H1 e => ⟨a, xs, rfl, ex_l (ex _ _ _ (h0 H1 e)) hx, ⟨fun i m σ H => m = xs.length - i ∧ i ≤ xs.length ∧ Pv i σ H, ⟨xs.length, by simp, Nat.zero_le _, h0 H1 e⟩, by
    rintro i m σ' H' ⟨rfl, hi, p⟩
    have q := ex_l (ex _ _ _ p) hx
    by_cases hlt : i < xs.length
    · refine .inr ⟨⟨xs, xs[i], q, by simp [hlt]⟩, Pv (i + 1), fun σ2 H2 p2 => ⟨xs.length - (i + 1), by omega, rfl, hlt, p2⟩, fun x H2 y => ?_⟩
      obtain ⟨T, v, rfl, hT, rfl, hv⟩ := y
      exact ⟨T, [.int (i : Int), v], rfl, st_of upd_same, rfl, hs i v σ' H' _ (hv xs q) p (Ex.new hT)⟩
    · have e : i = xs.length := by omega
      subst e
      exact .inl ⟨⟨xs, q, Nat.le_refl _⟩, hd σ' H' p⟩⟩⟩
theorem q_forEn {ta : TA} {a : Addr} {xs : List V} {gs : TGs} {H0 : Hp} (h : EvA ta σ H [.ref a]) (hx : SqL K H0 a xs) (Pv : Nat → L2.St → Hp → Prop) (h0 : ∀ H1, Ex H H1 → Pv 0 σ H1) (ex : ∀ i σ' H', Pv i σ' H' → Ex H0 H')
    (hs : ∀ i x σ' H' H1, xs[i]? = some x → Pv i σ' H' → Ex H' H1 → gs [.int (i : Int), x] σ' H1 fun σ2 H2 => tu { D with nx := Pv (i + 1), ct := Pv (i + 1), bk := tz D } σ2 H2) (hd : ∀ σ' H', Pv xs.length σ' H' → tz D σ' H') : tSeq (tFor (iEnum K ta) (gTup K 2 gs) tu) tz D σ H :=
  s_forEn (D := { D with nx := tz D }) h hx Pv h0 ex hs hd
/-- a new tuple put behind a list of tuples -/
theorem tups_snoc {H H1 : Hp} {D t : Addr} {zs : List V} {ts : List Addr} {ks : List (List Int)} {k : List Int} (hD : H D = some (.lst (ts.map V.ref))) (hT : Tups K H ts ks) (e : Ex H H1) (hp : H t = none) (h1 : H1 t = some (.tup (k.map V.int))) : Tups K (upd H1 D (.lst zs)) (ts ++ [t]) (ks ++ [k]) := by
  have b : But D H (upd H1 D (.lst zs)) := ((But.refl _ H).ex e).upd
  have tn : t ≠ D := fun z => by
    rw [z, hD] at hp
    cases hp
  exact paired_snoc (b.tups hD hT) (st_of (by rw [upd_ne tn]; exact h1))
theorem map_snoc (ts : List Addr) (t : Addr) : ts.map V.ref ++ [V.ref t] = (ts ++ [t]).map V.ref := by rw [List.map_append]; rfl
def PrIs (K : PySem.W.Frag) (H : Hp) : Option PrA → Option Product → Prop
  | none, none => True
  | some a, some p => ProdAt K H a p
  | _, _ => False
theorem ProdsAt.get {pl : Addr} {pr : List (Option PrA)} {ps : TimBuck.Products} (h : ProdsAt K H pl pr ps) {k : Nat} {o : Option Product} (hk : ps[k]? = some o) : ∃ B, pr[k]? = some B ∧ PrIs K H B o := by
  have hl := h.all.length
  have hi := (List.getElem?_eq_some_iff.mp hk).1
  have e : pr[k]? = some pr[k] := List.getElem?_eq_getElem (by omega)
  refine ⟨_, e, ?_⟩
  have z := paired_get2 h.all e hk
  revert z
  cases pr[k] <;> cases o <;> exact id
theorem ProdsAt.get_some {pl : Addr} {pr : List (Option PrA)} {ps : TimBuck.Products} (h : ProdsAt K H pl pr ps) {k : Nat} {p : Product} (hk : ps[k]? = some (some p)) : ∃ B, pr[k]? = some (some B) ∧ ProdAt K H B p := by
  obtain ⟨B, h1, h2⟩ := h.get hk
  cases B with
  | none => exact absurd h2 id
  | some B => exact ⟨B, h1, h2⟩
theorem ev_prod {ta tb : TE} {pl : Addr} {pr : List (Option PrA)} {ps : TimBuck.Products} {k : Nat} {B : Option PrA} (h : ProdsAt K H pl pr ps) (h1 : Ev ta σ H (.ref pl)) (h2 : Ev tb σ H (.int (k : Int))) (hk : pr[k]? = some B) : Ev (tOp (rIxL K) ta tb) σ H (prV B) :=
  ev_ixL h1 h2 (sq_of h.lst) (at_of (j := k) rfl (by rw [List.getElem?_map, hk]; rfl))
end
/-! ## kinds of logs -/
def kindI (p : Product) (k l : Nat) : List Int := [-((l + p.over : Nat) : Int), (k : Int), (l : Int)]
def kindsAt (o : Option Product) (k : Nat) : List (List Int) := match o with
  | none => []
  | some p => (paidsL p).map (kindI p k)
def kindsN (ps : TimBuck.Products) (n : Nat) : List (List Int) := (List.range n).flatMap fun k => kindsAt (ps[k]?).join k
theorem kindsN_succ (ps : TimBuck.Products) (n : Nat) : kindsN ps (n + 1) = kindsN ps n ++ kindsAt (ps[n]?).join n := by
  unfold kindsN
  rw [List.range_succ, List.flatMap_append, List.flatMap_cons, List.flatMap_nil, List.append_nil]
theorem paidsL_len {p : Product} (h : ProdOk p) : (paidsL p).length ≤ 20 := by
  have := h.cnt
  unfold paidsL
  rw [List.length_map, List.length_range]
  omega
theorem kindsAt_len {o : Option Product} {k : Nat} (h : ∀ p, o = some p → ProdOk p) : (kindsAt o k).length ≤ 20 := by
  cases o with
  | none => exact Nat.zero_le _
  | some p =>
    show ((paidsL p).map (kindI p k)).length ≤ 20
    rw [List.length_map]
    exact paidsL_len (h p rfl)
theorem kindsN_len {ps : TimBuck.Products} (h : ∀ (k : Nat) (p : Product), ps[k]? = some (some p) → ProdOk p) : ∀ n, (kindsN ps n).length ≤ 20 * n
  | 0 => Nat.le_refl _
  | n + 1 => by
    have ih := kindsN_len h n
    have h2 : (kindsAt (ps[n]?).join n).length ≤ 20 := kindsAt_len fun p e => h n p (by
      cases z : ps[n]? with
      | none =>
        rw [z] at e
        cases e
      | some o =>
        rw [z] at e
        rw [show o = some p from e])
    rw [kindsN_succ, List.length_append]
    omega
def kindsS (ps : TimBuck.Products) : List (List Int) := (kindsN ps 8).mergeSort fun p q => decide (p ≤ q)
section
variable {P : Program} {w : World} {K : PySem.W.Frag} {mg : Str → Option Value} {base : Heap} {vs : List V} {H : Hp} {Q : VK} {E : XK}
theorem ProdsAt.ok {pl : Addr} {pr : List (Option PrA)} {ps : TimBuck.Products} (h : ProdsAt K H pl pr ps) (k : Nat) (p : Product) (hk : ps[k]? = some (some p)) : ProdOk p := by
  obtain ⟨B, _, hB⟩ := h.get_some hk
  exact hB.ok
def sp_kinds_of (K : PySem.W.Frag) : Sp := fun vs H Q _ => ∃ (pl : Addr) (pr : List (Option PrA)) (ps : TimBuck.Products), vs = [.ref pl] ∧ ProdsAt K H pl pr ps ∧ RetT K (kindsS ps) H Q
theorem len_kinds_of (h : sp_kinds_of K vs H Q E) : vs.length = 1 := by
  obtain ⟨a, b, c, rfl, _⟩ := h
  rfl
theorem el_paids {σ : L2.St} {ta : TE} {E' : XK} {A : PrA} {p : Product} (h : Ev ta σ H (.ref A.p)) (hs : ProdAt K H A p) : EvL (tMeth (He.ga K "Product") "paid_lengths" (sp_Product_paid_lengths K) [] E' ta tNil) σ H ((paidsL p).map fun (n : Nat) => V.int (n : Int)) := fun H1 e Q q =>
  h H1 e _ fun H2 e2 => ⟨A.p, A.dx, _, rfl, (hs.mono (e.trans e2)).ins, prF_no (by decide +kernel), ⟨A, p, rfl, hs.mono (e.trans e2), fun q' H3 hq e3 h3 => q q' H3 (fresh_back e2 hq) (e2.trans e3) h3⟩⟩
abbrev NL_kinds_of : List Str := ["products", "kinds", "k", "product", "paid"]
theorem sc_kinds_of : FnScope NL_kinds_of ["products"] (defScope s_kinds_of) := ⟨rfl, rfl, rfl, by decide +kernel, rfl, by decide +kernel, by decide +kernel⟩
def t_kinds_of (K : PySem.W.Frag) : TS := (tSeq (tAsg (tLst tNil) (gName 1))
    (tSeq (tFor (iEnum K (tCons (tVar 0) tNil)) (gTup K 2 (gCons (gName 2) (gCons (gName 3) gNil))) (tIfS (tTest (tOp rNotN (tVar 3) (tC .non))) (tFor (iList K (tMeth (He.ga K "Product") "paid_lengths" (sp_Product_paid_lengths K) [] E0 (tVar 3) tNil)) (gName 4) (tDrop (tBM K "list" rAppend (tVar 1) (tCons (tTup (tCons (tUn (rU fun i => .int (-i)) (tOp (rI0 fun i j => .int (i + j)) (tVar 4) (tFld K (tVar 3) "over"))) (tCons (tVar 2) (tCons (tVar 4) tNil)))) tNil)))) tNext))
    (tRet (tCB (rSortT K) (tCons (tVar 1) tNil)))))
theorem w_kinds_of (T : Txt K mg) (cdv : Value) (A : Around) (outer : List Env) (s : Shared) (H : Hp) (E : XK) (hr : Room 1 (A.deeper (envOfC "kinds_of" (defScope s_kinds_of) s.heap.objs.size (He.fAd K ("kinds_of", none)) cdv))) :
    PSs (cxOf CX0 P w K mg base NL_kinds_of "kinds_of" (defScope s_kinds_of) (He.fAd K ("kinds_of", none)) cdv A outer s H E).nox (defBody s_kinds_of) (t_kinds_of K) := by
  exact (pss_cons (ps_set (i := 1) sc_kinds_of.nd rfl (.inl rfl) (pe_lst pa_nil))
    (pss_cons (ps_for PassesOwn.never rfl (pi_enum rfl (T.free 86 rfl) (pa_cons (pv 0) pa_nil)) (pg_tup rfl (pgs_cons (pg_name (i := 2) sc_kinds_of.nd rfl (.inl rfl)) (pgs_cons (pg_name (i := 3) sc_kinds_of.nd rfl (.inl rfl)) pgs_nil))) (pss_one (ps_if (pt_cmpR op_notN (pv 3) (by exact pe_non) (nomark _)) (pss_one (ps_for PassesOwn.never rfl (pi_list (pe_methG0 (pv 3) (T.cls 120 rfl) (T.meth 132 rfl) (ok_Product_paid_lengths T) (hr.mono (by decide)))) (pg_name (i := 4) sc_kinds_of.nd rfl (.inl rfl)) (pss_one (ps_expr (pe_bm PySem.F.plainAttrs_list PySem.F.slot_list_append PySem.F.type_list_append mt_append (pv 1) (pa_cons (pe_tup (pa_cons (pe_un un_neg (pe_op op_add (pv 4) (pe_fld (pv 3) rfl))) (pa_cons (pv 2) (pa_cons (pv 4) pa_nil)))) pa_nil)))))) pss_nil)))
    (pss_one (ps_ret (pe_callB (cr_sortT (Room.units hr)) rfl (T.free 84 rfl) (by decide +kernel) (pa_cons (pv 1) pa_nil))))))
theorem pure_kinds_of (T : Txt K mg) (h : sp_kinds_of K vs H Q E) : t_kinds_of K { nx := fun _ H' => Q .non H', rt := Q } (start NL_kinds_of vs) H := by
  obtain ⟨pl, pr, ps, rfl, hp, k⟩ := h
  refine q_asgL el_nil fun D H1 hD e1 h1 => ?_
  refine q_forEn (H0 := H) (ea_cons (ev_var rfl) ea_nil) (sq_of hp.lst) (fun i σ' H' => ∃ (ts : List Addr) (u v w : Option V), σ' = [some (.ref pl), some (.ref D), u, v, w] ∧ Ex H H' ∧ H' D = some (.lst (ts.map V.ref)) ∧ Tups K H' ts (kindsN ps i))
    (fun H2 e2 => ⟨[], none, none, none, rfl, e1.trans e2, e2 _ _ h1, .nil⟩) (fun i σ' H' ⟨_, _, _, _, _, e, _⟩ => e) ?_ ?_
  · rintro i x σ' H' J hx ⟨ts, u, v, w', rfl, e, hl, hT⟩ eJ
    obtain ⟨B, hB, rfl⟩ := map_at hx
    have hlen := hp.all.length
    have hi : i < ps.length := by
      have := (List.getElem?_eq_some_iff.mp hB).1
      omega
    have hpi : ps[i]? = some ps[i] := List.getElem?_eq_getElem hi
    obtain ⟨B', hB', hr⟩ := hp.get hpi
    rw [hB] at hB'
    cases hB'
    refine ⟨_, _, rfl, _, _, rfl, rfl, ?_⟩
    show tIfS _ _ _ _ [some (.ref pl), some (.ref D), some (.int (i : Int)), some (prV B), w'] J
    have hlJ := eJ _ _ hl
    have hTJ := tups_ex eJ hT
    refine s_when (et_test (ev_notN (ev_var rfl))) (fun hb H2 e2 => ?_) (fun hb H2 e2 => ?_)
    · cases B with
      | none => cases hb
      | some B =>
        cases ho : ps[i] with
        | none =>
          rw [ho] at hr
          exact absurd hr id
        | some p =>
          rw [ho] at hr hpi
          have hr : ProdAt K H B p := hr
          have hr2 : ProdAt K H2 B p := hr.mono ((e.trans eJ).trans e2)
          have l1 := kindsN_len hp.ok i
          have l2 := paidsL_len hr.ok
          have hi8 := hp.len
          refine s_forNL (el_paids (ev_var rfl) hr2) (fun q j σ' H' => ∃ (ts : List Addr) (w : Option V), σ' = [some (.ref pl), some (.ref D), some (.int (i : Int)), some (.ref B.p), w] ∧ Ex H H' ∧ q ≠ D ∧ H' q = some (.lst ((paidsL p).map fun (n : Nat) => V.int (n : Int))) ∧ H' D = some (.lst (ts.map V.ref)) ∧ Tups K H' ts (kindsN ps i ++ ((paidsL p).take j).map (kindI p i))) ?_ ?_ ?_ ?_
          · intro q H3 hq e3 h3
            refine ⟨ts, w', rfl, ((e.trans eJ).trans e2).trans e3, ?_, h3, e3 _ _ (e2 _ _ hlJ), ?_⟩
            · rintro rfl
              rw [e2 _ _ hlJ] at hq
              cases hq
            · rw [List.take_zero, List.map_nil, List.append_nil]
              exact tups_ex (e2.trans e3) hTJ
          · rintro q j σ' H' _ ⟨_, _, _, _, _, h3, _⟩
            exact sq_of h3
          · rintro q j x σ' H' hx ⟨ts, w', rfl, e3, hq, h3, h4, h5⟩
            obtain ⟨l, hl, rfl⟩ := map_at hx
            have hr3 := hr.mono e3
            refine s_appU (xs := ts.map V.ref) (ys := (kindI p i l).map V.int) h4 (ev_var rfl) (eu_tup (ea_cons (ev_neg (ev_int (ev_add (ev_var rfl) (evP_over T (ev_var rfl) hr3)) (by omega))) (ea_cons (ev_var rfl) (ea_cons (ev_var rfl) ea_nil))) (by show 3 ≤ 100000; decide)) ?_ fun t H5 ht e5 h6 => ?_
            · rw [List.length_map, h5.length, List.length_append, List.length_map, List.length_take]
              omega
            · refine ⟨ts ++ [t], _, rfl, Ex.mut (e3.trans e5) hD, hq, ?_, ?_, ?_⟩
              · rw [upd_ne hq]
                exact e5 _ _ h3
              · rw [map_snoc]
                exact upd_same
              · rw [get_take hl, List.map_append, ← List.append_assoc]
                exact tups_snoc h4 h5 e5 ht h6
          · rintro q σ' H' ⟨ts, w', rfl, e3, hq, h3, h4, h5⟩
            refine ⟨ts, _, _, _, rfl, e3, h4, ?_⟩
            rw [List.length_map, List.take_length] at h5
            rw [kindsN_succ, hpi]
            exact h5
    · cases B with
      | some B => cases hb
      | none =>
        cases ho : ps[i] with
        | some p =>
          rw [ho] at hr
          exact absurd hr id
        | none =>
          rw [ho] at hpi
          refine ⟨ts, _, _, _, rfl, (e.trans eJ).trans e2, e2 _ _ hlJ, ?_⟩
          rw [kindsN_succ, hpi]
          show Tups K H2 ts (kindsN ps i ++ [])
          rw [List.append_nil]
          exact tups_ex e2 hTJ
  · rintro σ' H' ⟨ts, u, v, w', rfl, e, hl, hT⟩
    have h8 : (pr.map prV).length = 8 := by rw [List.length_map, hp.all.length, hp.len]
    rw [h8] at hT
    refine ⟨_, rfl, D, ts, kindsN ps 8, rfl, sq_of hl, hT, ?_, fun q ts' hq hT' => ?_⟩
    · intro κ hκ
      unfold kindsN at hκ
      obtain ⟨j, _, hj⟩ := List.mem_flatMap.mp hκ
      cases ho : (ps[j]?).join with
      | none =>
        rw [ho] at hj
        cases hj
      | some p =>
        rw [ho] at hj
        obtain ⟨l, _, rfl⟩ := List.mem_map.mp hj
        intro z
        cases z
    · exact k q ts' _ (fresh_back e hq) (e.trans (Ex.new hq)) upd_same (tups_ex (Ex.new hq) hT')
theorem ok_kinds_of (T : Txt K mg) : Good P w K mg base ("kinds_of", none) 2 ["products"] (sp_kinds_of K) :=
  good_mk (d := d_kinds_of) T 57 rfl rfl rfl sc_kinds_of (fun vs H Q E h => len_kinds_of h) (fun _ _ _ _ _ _ us hl => match us, hl with | [_], _ => rfl) (fun cdv A outer s H E hr => w_kinds_of T cdv A outer s H E hr) (fun vs H Q E h => pure_kinds_of T h)
end
end Sb
end
section
set_option maxHeartbeats 4000000
namespace Sb
open TimBuck (Stem Product Piece Log Step)
/-! ## the logs that fit at a height, in their order -/
theorem only_one {α : Type} {R : α → α → Prop} (irr : ∀ x, ¬ R x x) (asy : ∀ x y, R x y → ¬ R y x) : ∀ {l m : List α}, l.Pairwise R → m.Pairwise R → (∀ x, x ∈ l ↔ x ∈ m) → l = m
  | [], [], _, _, _ => rfl
  | [], b :: m, _, _, h => absurd ((h b).mpr (List.mem_cons_self ..)) List.not_mem_nil
  | a :: l, [], _, _, h => absurd ((h a).mp (List.mem_cons_self ..)) List.not_mem_nil
  | a :: l, b :: m, h1, h2, h => by
    obtain ⟨p1, q1⟩ := List.pairwise_cons.mp h1
    obtain ⟨p2, q2⟩ := List.pairwise_cons.mp h2
    have e : a = b := by
      rcases List.mem_cons.mp ((h a).mp (List.mem_cons_self ..)) with z | z
      · exact z
      · rcases List.mem_cons.mp ((h b).mpr (List.mem_cons_self ..)) with y | y
        · exact y.symm
        · exact absurd (p2 a z) (asy _ _ (p1 b y))
    subst e
    congr 1
    refine only_one irr asy q1 q2 fun x => ⟨fun hx => ?_, fun hx => ?_⟩
    · rcases List.mem_cons.mp ((h x).mp (List.mem_cons_of_mem _ hx)) with z | z
      · subst z
        exact absurd (p1 _ hx) (irr _)
      · exact z
    · rcases List.mem_cons.mp ((h x).mpr (List.mem_cons_of_mem _ hx)) with z | z
      · subst z
        exact absurd (p2 _ hx) (irr _)
      · exact z
def LR (x y : Log) : Prop := y.takes < x.takes ∨ (x.takes = y.takes ∧ x.product < y.product)
theorem join_some {ps : TimBuck.Products} {k : Nat} {p : Product} (h : (ps[k]?).join = some p) : ps[k]? = some (some p) := by
  cases z : ps[k]? with
  | none =>
    rw [z] at h
    cases h
  | some o =>
    rw [z] at h
    rw [show o = some p from h]
theorem some_join {ps : TimBuck.Products} {k : Nat} {p : Product} (h : ps[k]? = some (some p)) : (ps[k]?).join = some p := by
  rw [h]
  rfl
def mkLog (s : Stem) (p : Product) (a k l : Nat) : Log := ⟨k, l, l + p.over, TimBuck.worth s p a l⟩
theorem logOf_some {s : Stem} {ps : TimBuck.Products} {a t k : Nat} {x : Log} : TimBuck.logOf s ps a t k = some x ↔ ∃ p l, ps[k]? = some (some p) ∧ 0 < l ∧ t = l + p.over ∧ TimBuck.against s p a l = 0 ∧ x = mkLog s p a k l := by
  unfold TimBuck.logOf
  cases z : (ps[k]?).join with
  | none =>
    refine ⟨fun h => (by cases h), fun ⟨p, l, h, _⟩ => ?_⟩
    rw [some_join h] at z
    cases z
  | some p =>
    have hp := join_some z
    constructor
    · intro h
      by_cases c : p.over < t ∧ TimBuck.against s p a (t - p.over) = 0
      · have h' : (if p.over < t ∧ TimBuck.against s p a (t - p.over) = 0 then some (⟨k, t - p.over, t, TimBuck.worth s p a (t - p.over)⟩ : Log) else none) = some x := h
        rw [if_pos c] at h'
        cases h'
        refine ⟨p, t - p.over, hp, by omega, by omega, c.2, ?_⟩
        unfold mkLog
        rw [show t - p.over + p.over = t by omega]
      · have h' : (if p.over < t ∧ TimBuck.against s p a (t - p.over) = 0 then some (⟨k, t - p.over, t, TimBuck.worth s p a (t - p.over)⟩ : Log) else none) = some x := h
        rw [if_neg c] at h'
        cases h'
    · rintro ⟨p', l, h, hl, rfl, ha, rfl⟩
      rw [hp] at h
      cases h
      show (if p.over < l + p.over ∧ TimBuck.against s p a (l + p.over - p.over) = 0 then some (⟨k, l + p.over - p.over, l + p.over, TimBuck.worth s p a (l + p.over - p.over)⟩ : Log) else none) = _
      rw [show l + p.over - p.over = l by omega, if_pos ⟨by omega, ha⟩]
      rfl
theorem against_zero {s : Stem} {p : Product} {a l : Nat} (h : TimBuck.against s p a l = 0) : p.has l = true ∧ s.foot ≤ a ∧ a + l + p.over ≤ s.top := by
  rw [against_eq] at h
  by_cases c : p.has l = false
  · rw [if_pos c] at h
    cases h
  · rw [if_neg c] at h
    by_cases c2 : a < s.foot ∨ s.top < a + l + p.over
    · rw [if_pos c2] at h
      cases h
    · exact ⟨by simpa using c, by omega, by omega⟩
theorem has_mem {p : Product} (o : ProdOk p) {l : Nat} (h : p.has l = true) : l ∈ paidsL p := by
  unfold TimBuck.Product.has at h
  rw [Bool.and_eq_true, Bool.and_eq_true, decide_eq_true_eq, decide_eq_true_eq, beq_iff_eq] at h
  obtain ⟨h1, h2, h3⟩ := h
  have s1 := o.s1
  refine List.mem_map.mpr ⟨(l - p.least) / p.step, List.mem_range.mpr ?_, ?_⟩
  · have : (l - p.least) / p.step ≤ (p.most - p.least) / p.step := Nat.div_le_div_right (by omega)
    omega
  · have := Nat.div_add_mod (l - p.least) p.step
    rw [h3, Nat.add_zero, Nat.mul_comm] at this
    omega
theorem paid_ten {p : Product} (o : ProdOk p) {l : Nat} (h : l ∈ paidsL p) : l % 10 = 0 ∧ 100 ≤ l := by
  obtain ⟨i, _, rfl⟩ := List.mem_map.mp h
  have h1 := o.l10
  have h2 := o.s10
  have h3 := o.l100
  have : i * p.step % 10 = 0 := by rw [Nat.mul_mod, h2, Nat.mul_zero]
  omega
theorem mem_logsAt {s : Stem} {ps : TimBuck.Products} {a : Nat} {x : Log} : x ∈ TimBuck.logsAt s ps a ↔ ∃ i k, i < (s.top - a) / 10 ∧ k < ps.length ∧ TimBuck.logOf s ps a (10 * i + 10) k = some x := by
  unfold TimBuck.logsAt
  constructor
  · intro h
    obtain ⟨i, hi, h⟩ := List.mem_flatMap.mp h
    obtain ⟨k, hk, h⟩ := List.mem_filterMap.mp h
    exact ⟨i, k, List.mem_range.mp (List.mem_reverse.mp hi), List.mem_range.mp hk, h⟩
  · rintro ⟨i, k, hi, hk, h⟩
    exact List.mem_flatMap.mpr ⟨i, List.mem_reverse.mpr (List.mem_range.mpr hi), List.mem_filterMap.mpr ⟨k, List.mem_range.mpr hk, h⟩⟩
theorem logOf_is {s : Stem} {ps : TimBuck.Products} {a t k : Nat} {x : Log} (h : TimBuck.logOf s ps a t k = some x) : x.takes = t ∧ x.product = k := by
  obtain ⟨p, l, _, _, rfl, _, rfl⟩ := logOf_some.mp h
  exact ⟨rfl, rfl⟩
theorem pair_logsAt (s : Stem) (ps : TimBuck.Products) (a : Nat) : (TimBuck.logsAt s ps a).Pairwise LR := by
  unfold TimBuck.logsAt
  refine List.pairwise_flatMap.mpr ⟨fun i _ => ?_, ?_⟩
  · refine List.pairwise_filterMap.mpr ((List.pairwise_lt_range (n := ps.length)).imp ?_)
    intro k k' hk x hx y hy
    have h1 := logOf_is hx
    have h2 := logOf_is hy
    exact .inr ⟨by rw [h1.1, h2.1], by rw [h1.2, h2.2]; exact hk⟩
  · refine List.pairwise_reverse.mpr ((List.pairwise_lt_range (n := (s.top - a) / 10)).imp ?_)
    intro i j hij x hx y hy
    obtain ⟨k, _, h1⟩ := List.mem_filterMap.mp hx
    obtain ⟨k', _, h2⟩ := List.mem_filterMap.mp hy
    have z1 := logOf_is h1
    have z2 := logOf_is h2
    exact .inl (by rw [z1.1, z2.1]; omega)
/-- the log of a kind, if it fits -/
def logI (s : Stem) (ps : TimBuck.Products) (a : Nat) : List Int → Option Log
  | [_, k, l] => match (ps[k.toNat]?).join with
    | none => none
    | some p => if TimBuck.against s p a l.toNat = 0 then some (mkLog s p a k.toNat l.toNat) else none
  | _ => none
theorem logI_kind {s : Stem} {ps : TimBuck.Products} {a k l : Nat} {p : Product} (h : ps[k]? = some (some p)) : logI s ps a (kindI p k l) = if TimBuck.against s p a l = 0 then some (mkLog s p a k l) else none := by
  show (match (ps[(k : Int).toNat]?).join with
    | none => none
    | some p => if TimBuck.against s p a (l : Int).toNat = 0 then some (mkLog s p a (k : Int).toNat (l : Int).toNat) else none) = _
  rw [Int.toNat_natCast, Int.toNat_natCast, some_join h]
theorem mem_kindsN {ps : TimBuck.Products} {n : Nat} {κ : List Int} : κ ∈ kindsN ps n ↔ ∃ k p l, k < n ∧ ps[k]? = some (some p) ∧ l ∈ paidsL p ∧ κ = kindI p k l := by
  unfold kindsN
  constructor
  · intro h
    obtain ⟨k, hk, h⟩ := List.mem_flatMap.mp h
    cases z : (ps[k]?).join with
    | none =>
      rw [z] at h
      cases h
    | some p =>
      rw [z] at h
      obtain ⟨l, hl, rfl⟩ := List.mem_map.mp h
      exact ⟨k, p, l, List.mem_range.mp hk, join_some z, hl, rfl⟩
  · rintro ⟨k, p, l, hk, hp, hl, rfl⟩
    refine List.mem_flatMap.mpr ⟨k, List.mem_range.mpr hk, ?_⟩
    rw [some_join hp]
    exact List.mem_map.mpr ⟨l, hl, rfl⟩
theorem mem_kindsS {ps : TimBuck.Products} {κ : List Int} : κ ∈ kindsS ps ↔ ∃ k p l, k < 8 ∧ ps[k]? = some (some p) ∧ l ∈ paidsL p ∧ κ = kindI p k l := List.mem_mergeSort.trans mem_kindsN
section
variable {ps : TimBuck.Products}
theorem nodup_kindsN (ok : ∀ (k : Nat) (p : Product), ps[k]? = some (some p) → ProdOk p) (n : Nat) : (kindsN ps n).Nodup := by
  unfold kindsN
  refine List.pairwise_flatMap.mpr ⟨fun k _ => ?_, (List.pairwise_lt_range (n := n)).imp ?_⟩
  · cases z : (ps[k]?).join with
    | none => exact List.Pairwise.nil
    | some p =>
      have s1 := (ok k p (join_some z)).s1
      refine List.pairwise_map.mpr (List.pairwise_map.mpr ((List.pairwise_lt_range (n := _)).imp ?_))
      intro i j hij e
      unfold kindI at e
      simp only [List.cons.injEq, and_true] at e
      have e3 := e.2.2
      have : i * p.step < j * p.step := Nat.mul_lt_mul_of_pos_right hij (by omega)
      omega
  · intro k k' hk x hx y hy e
    subst e
    have ex : ∀ {m : Nat}, x ∈ kindsAt (ps[m]?).join m → ∃ p l, x = kindI p m l := fun {m} h => by
      cases z : (ps[m]?).join with
      | none =>
        rw [z] at h
        cases h
      | some p =>
        rw [z] at h
        obtain ⟨l, _, rfl⟩ := List.mem_map.mp h
        exact ⟨p, l, rfl⟩
    obtain ⟨p, l, e1⟩ := ex hx
    obtain ⟨p', l', e2⟩ := ex hy
    rw [e1] at e2
    unfold kindI at e2
    simp only [List.cons.injEq, and_true] at e2
    have := e2.2.1
    omega
theorem le3 {a b c a' b' c' : Int} (h : ([a, b, c] : List Int) ≤ [a', b', c']) : a < a' ∨ (a = a' ∧ (b < b' ∨ (b = b' ∧ c ≤ c'))) := by
  have h' : ¬ ([a', b', c'] : List Int) < [a, b, c] := h
  rw [List.cons_lt_cons_iff, List.cons_lt_cons_iff, List.cons_lt_cons_iff] at h'
  omega
theorem pair_kindsS (ok : ∀ (k : Nat) (p : Product), ps[k]? = some (some p) → ProdOk p) (s : Stem) (a : Nat) : ((kindsS ps).filterMap (logI s ps a)).Pairwise LR := by
  have h1 : (kindsS ps).Pairwise fun p q => decide (p ≤ q) = true := List.pairwise_mergeSort (le := fun p q : List Int => decide (p ≤ q)) (fun (a b c : List Int) h1 h2 => decide_eq_true (List.le_trans (of_decide_eq_true h1) (of_decide_eq_true h2))) (fun (a b : List Int) => by
    rcases List.le_total a b with h | h
    · rw [decide_eq_true h]
      rfl
    · rw [decide_eq_true h, Bool.or_true]) _
  have h2 : (kindsS ps).Pairwise (· ≠ ·) := (List.mergeSort_perm (kindsN ps 8) _).symm.nodup (nodup_kindsN ok 8)
  refine List.pairwise_filterMap.mpr ((h1.and h2).imp_of_mem ?_)
  intro κ κ' m m' ⟨hle, hne⟩ x hx y hy
  obtain ⟨k, p, l, _, hp, _, rfl⟩ := mem_kindsS.mp m
  obtain ⟨k', p', l', _, hp', _, rfl⟩ := mem_kindsS.mp m'
  rw [logI_kind hp] at hx
  rw [logI_kind hp'] at hy
  have hx : x = mkLog s p a k l := by
    split at hx
    · cases hx
      rfl
    · cases hx
  have hy : y = mkLog s p' a k' l' := by
    split at hy
    · cases hy
      rfl
    · cases hy
  subst hx hy
  have z := le3 (of_decide_eq_true hle)
  show l' + p'.over < l + p.over ∨ (l + p.over = l' + p'.over ∧ k < k')
  by_cases c : k = k'
  · subst c
    rw [hp] at hp'
    cases hp'
    by_cases c2 : l = l'
    · subst c2
      exact absurd rfl hne
    · omega
  · omega
theorem logs_kinds {s : Stem} {a : Nat} (hps : ps.length = 8) (ok : ∀ (k : Nat) (p : Product), ps[k]? = some (some p) → ProdOk p) : (kindsS ps).filterMap (logI s ps a) = TimBuck.logsAt s ps a := by
  refine only_one (R := LR) (fun x h => by unfold LR at h; omega) (fun x y h h' => by unfold LR at h h'; omega) (pair_kindsS ok s a) (pair_logsAt s ps a) fun x => ⟨fun h => ?_, fun h => ?_⟩
  · obtain ⟨κ, m, hx⟩ := List.mem_filterMap.mp h
    obtain ⟨k, p, l, hk, hp, hl, rfl⟩ := mem_kindsS.mp m
    have o := ok k p hp
    obtain ⟨t1, t2⟩ := paid_ten o hl
    have o10 := o.o10
    rw [logI_kind hp] at hx
    by_cases c : TimBuck.against s p a l = 0
    · rw [if_pos c] at hx
      cases hx
      have z := against_zero c
      refine mem_logsAt.mpr ⟨(l + p.over) / 10 - 1, k, by omega, by omega, logOf_some.mpr ⟨p, l, hp, by omega, by omega, c, rfl⟩⟩
    · rw [if_neg c] at hx
      cases hx
  · obtain ⟨i, k, hi, hk, h⟩ := mem_logsAt.mp h
    obtain ⟨p, l, hp, hl, ht, ha, rfl⟩ := logOf_some.mp h
    have o := ok k p hp
    refine List.mem_filterMap.mpr ⟨kindI p k l, mem_kindsS.mpr ⟨k, p, l, by omega, hp, has_mem o (against_zero ha).1, rfl⟩, ?_⟩
    rw [logI_kind hp, if_pos ha]
end
end Sb
end
section
set_option maxHeartbeats 4000000
namespace Sb
open PySem PySem.Spec PySem.Calls PyProof.Rows L2 Evl
open TimBuck (Stem Product Piece diameterIn Log)
/-- an expression that gives what X tells: of the heap ahead, the value, the heap then -/
def EvX (te : TE) (σ : L2.St) (H : Hp) (X : Hp → V → Hp → Prop) : Prop := ∀ H1, Ex H H1 → ∀ Q : VK, (∀ v H2, Ex H1 H2 → X H1 v H2 → Q v H2) → te σ H1 Q
section
variable {K : PySem.W.Frag} {σ : L2.St} {H : Hp} {D : Ends} {tu tz : TS} {te tl : TE} {X : Hp → V → Hp → Prop}
theorem q_asgX {i : Nat} (h : EvX te σ H X) (k : ∀ v H1, Ex H H1 → X H v H1 → tz D (σ.set i (some v)) H1) : tSeq (tAsg te (gName i)) tz D σ H := h H (Ex.refl H) _ k
theorem s_retX (h : EvX te σ H X) (k : ∀ v H1, Ex H H1 → X H v H1 → D.rt v H1) : tRet te D σ H := h H (Ex.refl H) _ k
theorem ex_call {sp : Sp} {vs : List V} {E : XK} {ta : TA} (h : EvA ta σ H vs) (hs : ∀ H1, Ex H H1 → ∀ Q : VK, (∀ v H2, Ex H1 H2 → X H1 v H2 → Q v H2) → sp vs H1 Q E) (mono : ∀ H1 H2 v H3, Ex H1 H2 → X H2 v H3 → X H1 v H3) : EvX (tCall sp [] E ta) σ H X := fun H1 e Q q =>
  h H1 e _ fun H2 e2 => by
    show sp (vs ++ []) H2 Q E
    rw [List.append_nil]
    exact hs H2 (e.trans e2) Q fun v H3 e3 x => q v H3 (e2.trans e3) (mono _ _ _ _ e2 x)
/-- a new list of tuples -/
def isT (K : PySem.W.Frag) (ks : List (List Int)) : Hp → V → Hp → Prop := fun H v H' => ∃ (p : Addr) (ts : List Addr), v = .ref p ∧ H p = none ∧ H' p = some (.lst (ts.map V.ref)) ∧ Tups K H' ts ks
theorem isT_mono {ks : List (List Int)} : ∀ H1 H2 v H3, Ex H1 H2 → isT K ks H2 v H3 → isT K ks H1 v H3 := fun H1 H2 v H3 e ⟨p, ts, h1, h2, h3, h4⟩ => ⟨p, ts, h1, fresh_back e h2, h3, h4⟩
theorem isT_of {ks : List (List Int)} {Q : VK} (q : ∀ v H2, Ex H H2 → isT K ks H v H2 → Q v H2) : RetT K ks H Q := fun p ts H' hp e h1 h2 => q _ _ e ⟨p, ts, rfl, hp, h1, h2⟩
end
/-! ## steps -/
def stepI : TimBuck.Step → List Int
  | .log x => [((x.takes / 10 : Nat) : Int), (x.product : Int), (x.long : Int), (x.worth : Int)]
  | .waste => [1, -1, 10, 0]
def stepsAt (s : Stem) (ps : TimBuck.Products) (a : Nat) : List TimBuck.Step := (TimBuck.logsAt s ps a).map TimBuck.Step.log ++ if a < s.top then [TimBuck.Step.waste] else []
theorem kindsS_len {ps : TimBuck.Products} (h : ∀ (k : Nat) (p : Product), ps[k]? = some (some p) → ProdOk p) : (kindsS ps).length ≤ 160 := by
  unfold kindsS
  rw [List.length_mergeSort]
  exact kindsN_len h 8
section
variable {P : Program} {w : World} {K : PySem.W.Frag} {mg : Str → Option Value} {base : Heap} {vs : List V} {H : Hp} {Q : VK} {E : XK}
def sp_steps_at (K : PySem.W.Frag) : Sp := fun vs H Q _ => ∃ (A : StA) (s : Stem) (pl : Addr) (pr : List (Option PrA)) (ps : TimBuck.Products) (aK : Addr) (tK : List Addr) (a : Nat), vs = [.ref A.s, .ref pl, .ref aK, .int (a : Int)] ∧ StemAt K H A s ∧ ProdsAt K H pl pr ps ∧ SqL K H aK (tK.map V.ref) ∧ Tups K H tK (kindsS ps) ∧ a % 10 = 0 ∧
  RetT K ((stepsAt s ps a).map stepI) H Q
theorem len_steps_at (h : sp_steps_at K vs H Q E) : vs.length = 4 := by
  obtain ⟨a, b, c, d, e, f, g, i, rfl, _⟩ := h
  rfl
abbrev NL_steps_at : List Str := ["stem", "products", "kinds", "height", "steps", "minus_taken", "k", "paid"]
theorem sc_steps_at : FnScope NL_steps_at ["stem", "products", "kinds", "height"] (defScope s_steps_at) := ⟨rfl, rfl, rfl, by decide +kernel, rfl, by decide +kernel, by decide +kernel⟩
def t_steps_at (K : PySem.W.Frag) : TS := (tSeq (tAsg (tLst tNil) (gName 4))
    (tSeq (tFor (iList K (tVar 2)) (gTup K 3 (gCons (gName 5) (gCons (gName 6) (gCons (gName 7) gNil)))) (tIfS (tTest (tOp rEq (tCall (sp_against K) [] E0 (tCons (tVar 0) (tCons (tOp (rIxL K) (tVar 1) (tVar 6)) (tCons (tVar 3) (tCons (tVar 7) tNil))))) (tC (.int 0)))) (tDrop (tBM K "list" rAppend (tVar 4) (tCons (tTup (tCons (tOp (rI CDiv fun i j => .int (i / j)) (tUn (rU fun i => .int (-i)) (tVar 5)) (tC (.int 10))) (tCons (tVar 6) (tCons (tVar 7) (tCons (tCall (sp_worth_of K) [] E0 (tCons (tVar 0) (tCons (tOp (rIxL K) (tVar 1) (tVar 6)) (tCons (tVar 3) (tCons (tVar 7) tNil))))) tNil))))) tNil))) tNext))
    (tSeq (tIfS (tTest (tOp (rI0 fun i j => .bl (decide (i < j))) (tVar 3) (tFld K (tVar 0) "top"))) (tDrop (tBM K "list" rAppend (tVar 4) (tCons (tC (.ref (He.ga K "WASTE"))) tNil))) tNext)
    (tRet (tVar 4)))))
theorem w_steps_at (T : Txt K mg) (cdv : Value) (A : Around) (outer : List Env) (s : Shared) (H : Hp) (E : XK) (hr : Room 2 (A.deeper (envOfC "steps_at" (defScope s_steps_at) s.heap.objs.size (He.fAd K ("steps_at", none)) cdv))) :
    PSs (cxOf CX0 P w K mg base NL_steps_at "steps_at" (defScope s_steps_at) (He.fAd K ("steps_at", none)) cdv A outer s H E).nox (defBody s_steps_at) (t_steps_at K) := by
  exact (pss_cons (ps_set (i := 4) sc_steps_at.nd rfl (.inl rfl) (pe_lst pa_nil))
    (pss_cons (ps_for PassesOwn.never rfl (pi_list (pv 2)) (pg_tup rfl (pgs_cons (pg_name (i := 5) sc_steps_at.nd rfl (.inl rfl)) (pgs_cons (pg_name (i := 6) sc_steps_at.nd rfl (.inl rfl)) (pgs_cons (pg_name (i := 7) sc_steps_at.nd rfl (.inl rfl)) pgs_nil)))) (pss_one (ps_if (pt_cmpR op_eq (pe_callG (ok_against T) (hr.mono (by decide)) rfl (T.glo 25 rfl) (pa_cons (pv 0) (pa_cons (pe_ix ix_list (pv 1) (pv 6) (fun _ _ => rfl)) (pa_cons (pv 3) (pa_cons (pv 7) pa_nil))))) (by exact pe_int) (nomark _)) (pss_one (ps_expr (pe_bm PySem.F.plainAttrs_list PySem.F.slot_list_append PySem.F.type_list_append mt_append (pv 4) (pa_cons (pe_tup (pa_cons (pe_op op_fdiv (pe_un un_neg (pv 5)) (by exact pe_int)) (pa_cons (pv 6) (pa_cons (pv 7) (pa_cons (pe_callG (ok_worth_of T) (hr.mono (by decide)) rfl (T.glo 26 rfl) (pa_cons (pv 0) (pa_cons (pe_ix ix_list (pv 1) (pv 6) (fun _ _ => rfl)) (pa_cons (pv 3) (pa_cons (pv 7) pa_nil))))) pa_nil))))) pa_nil)))) pss_nil)))
    (pss_cons (ps_if (pt_cmpR op_lt (pv 3) (pe_fld (pv 0) rfl) (nomark _)) (pss_one (ps_expr (pe_bm PySem.F.plainAttrs_list PySem.F.slot_list_append PySem.F.type_list_append mt_append (pv 4) (pa_cons (pe_gr rfl (T.glo 38 rfl)) pa_nil)))) pss_nil)
    (pss_one (ps_ret (pv 4))))))
theorem pure_steps_at (T : Txt K mg) (h : sp_steps_at K vs H Q E) : t_steps_at K { nx := fun _ H' => Q .non H', rt := Q } (start NL_steps_at vs) H := by
  obtain ⟨A, s, pl, pr, ps, aK, tK, a, rfl, hs, hp, hK, hT, ha, k⟩ := h
  have klen := kindsS_len hp.ok
  have hlogs := logs_kinds (s := s) (a := a) hp.len hp.ok
  refine q_asgL el_nil fun D H1 hD e1 h1 => ?_
  refine q_forTup (H0 := H) (ev_var rfl) hK hT (fun i σ' H' => ∃ (ts : List Addr) (u v w : Option V), σ' = [some (.ref A.s), some (.ref pl), some (.ref aK), some (.int (a : Int)), some (.ref D), u, v, w] ∧ Ex H H' ∧ H' D = some (.lst (ts.map V.ref)) ∧ Tups K H' ts ((((kindsS ps).take i).filterMap (logI s ps a)).map fun x => stepI (.log x)))
    (fun H2 e2 => ⟨[], none, none, none, rfl, e1.trans e2, e2 _ _ h1, .nil⟩) (fun i σ' H' ⟨_, _, _, _, _, e, _⟩ => e) ?_ ?_
  · rintro i κ σ' H' hκ ⟨ts, u, v, w', rfl, e, h4, h5⟩
    obtain ⟨k', p, l, hk8, hpk, hl, rfl⟩ := mem_kindsS.mp (List.mem_of_getElem? hκ)
    obtain ⟨B, hB, hPB⟩ := hp.get_some hpk
    have ten := paid_ten hPB.ok hl
    refine ⟨rfl, _, _, rfl, _, _, rfl, _, _, rfl, rfl, ?_⟩
    have hs' := hs.mono e
    have hp' := hp.mono e
    have hPB' := hPB.mono e
    show tIfS _ _ _ _ [some (.ref A.s), some (.ref pl), some (.ref aK), some (.int (a : Int)), some (.ref D), some (.int (-((l + p.over : Nat) : Int))), some (.int (k' : Int)), some (.int (l : Int))] H'
    have htake : ((kindsS ps).take (i + 1)).filterMap (logI s ps a) = ((kindsS ps).take i).filterMap (logI s ps a) ++ (if TimBuck.against s p a l = 0 then [mkLog s p a k' l] else []) := by
      rw [get_take hκ, List.filterMap_append, List.filterMap_cons, List.filterMap_nil, logI_kind hpk]
      by_cases c : TimBuck.against s p a l = 0
      · rw [if_pos c, if_pos c]
      · rw [if_neg c, if_neg c]
    refine s_when (et_test (ev_eqi (ev_against (ev_var rfl) (ev_prod hp' (ev_var rfl) (ev_var rfl) hB) (ev_var rfl) (ev_var rfl) hs' hPB' ⟨ha, ten.1, by omega⟩) ev_c)) (fun hb H2 e2 => ?_) (fun hb H2 e2 => ?_)
    · have c : TimBuck.against s p a l = 0 := by
        have := eq_of_beq hb
        omega
      have z := against_zero c
      have hs2 := hs'.mono e2
      have hp2 := hp'.mono e2
      have hPB2 := hPB'.mono e2
      refine s_appU (xs := ts.map V.ref) (ys := (stepI (.log (mkLog s p a k' l))).map V.int) (e2 _ _ h4) (ev_var rfl) (eu_tup (ea_cons (ev_int (ev_div (ev_neg (ev_var rfl)) (ev_c (v := .int 10)) (by decide)) ?_) (ea_cons (ev_var rfl) (ea_cons (ev_var rfl) (ea_cons (ev_worth (ev_var rfl) (ev_prod hp2 (ev_var rfl) (ev_var rfl) hB) (ev_var rfl) (ev_var rfl) hs2 hPB2 ⟨ha, ten.1, by omega⟩) ea_nil)))) (by show 4 ≤ 100000; decide)) ?_ fun t H5 ht e5 h6 => ?_
      · show (- -((l + p.over : Nat) : Int)) / 10 = (((l + p.over) / 10 : Nat) : Int)
        omega
      · rw [List.length_map, h5.length, List.length_map]
        have := List.length_filterMap_le (logI s ps a) ((kindsS ps).take i)
        rw [List.length_take] at this
        omega
      · refine ⟨ts ++ [t], _, _, _, rfl, Ex.mut ((e.trans e2).trans e5) hD, ?_, ?_⟩
        · rw [map_snoc]
          exact upd_same
        · rw [htake, if_pos c, List.map_append]
          exact tups_snoc (e2 _ _ h4) (tups_ex e2 h5) e5 ht h6
    · have c : ¬ TimBuck.against s p a l = 0 := fun z => by
        rw [z] at hb
        cases hb
      refine ⟨ts, _, _, _, rfl, e.trans e2, e2 _ _ h4, ?_⟩
      rw [htake, if_neg c, List.append_nil]
      exact tups_ex e2 h5
  · rintro σ' H' ⟨ts, u, v, w', rfl, e, h4, h5⟩
    rw [List.take_length, hlogs] at h5
    have hs' := hs.mono e
    refine q_when (et_test (ev_lt (ev_var rfl) (evS_top T (ev_var rfl) hs'))) (fun hb H2 e2 => ?_) (fun hb H2 e2 => ?_)
    · have c : a < s.top := by
        have := of_decide_eq_true hb
        omega
      refine s_app (xs := ts.map V.ref) (e2 _ _ h4) (ev_var rfl) ev_c ?_ fun H3 e3 => ?_
      · rw [List.length_map, h5.length, List.length_map, ← hlogs]
        have := List.length_filterMap_le (logI s ps a) (kindsS ps)
        omega
      · refine s_ret (ev_var rfl) fun H4 e4 => k D (ts ++ [He.ga K "WASTE"]) H4 hD (Ex.trans (Ex.mut ((e.trans e2).trans e3) hD) e4) (e4 _ _ (by rw [map_snoc]; exact upd_same)) ?_
        unfold stepsAt
        rw [if_pos c, List.map_append, List.map_map]
        have b : But D H2 (upd H3 D (.lst (ts.map V.ref ++ [V.ref (He.ga K "WASTE")]))) := ((But.refl _ H2).ex e3).upd
        exact tups_ex e4 (paired_snoc (b.tups (e2 _ _ h4) (tups_ex e2 h5)) (T.waste _))
    · have c : ¬ a < s.top := by
        have := of_decide_eq_false hb
        omega
      refine s_ret (ev_var rfl) fun H4 e4 => k D ts H4 hD ((e.trans e2).trans e4) (e4 _ _ (e2 _ _ h4)) ?_
      unfold stepsAt
      rw [if_neg c, List.append_nil, List.map_map]
      exact tups_ex (e2.trans e4) h5
theorem ok_steps_at (T : Txt K mg) : Good P w K mg base ("steps_at", none) 3 ["stem", "products", "kinds", "height"] (sp_steps_at K) :=
  good_mk (d := d_steps_at) T 58 rfl rfl rfl sc_steps_at (fun vs H Q E h => len_steps_at h) (fun _ _ _ _ _ _ us hl => match us, hl with | [_, _, _, _], _ => rfl) (fun cdv A outer s H E hr => w_steps_at T cdv A outer s H E hr) (fun vs H Q E h => pure_steps_at T h)
/-! ## boards -/
def RowAt (K : PySem.W.Frag) (H : Hp) (r : Addr) (l : List TimBuck.Step) : Prop := ∃ ts : List Addr, SqL K H r (ts.map V.ref) ∧ Tups K H ts (l.map stepI)
def BoardAt (K : PySem.W.Frag) (H : Hp) (a : Addr) (b : List (List TimBuck.Step)) : Prop := ∃ rows : List Addr, SqL K H a (rows.map V.ref) ∧ Paired (RowAt K H) rows b
theorem RowAt.mono {H' : Hp} {r : Addr} {l : List TimBuck.Step} (e : Ex H H') (h : RowAt K H r l) : RowAt K H' r l := by
  obtain ⟨ts, h1, h2⟩ := h
  exact ⟨ts, ex_l e h1, tups_ex e h2⟩
theorem BoardAt.mono {H' : Hp} {a : Addr} {b : List (List TimBuck.Step)} (e : Ex H H') (h : BoardAt K H a b) : BoardAt K H' a b := by
  obtain ⟨rows, h1, h2⟩ := h
  exact ⟨rows, ex_l e h1, Paired.mapP h2 fun _ _ z => RowAt.mono e z⟩
/-- a list stays while another one is changed -/
theorem sqL_but {H1 H2 : Hp} {D r : Addr} {xs zs : List V} (hr : r ≠ D) (h : SqL K H1 r xs) (k : ∀ a o, a ≠ D → H1 a = some o → H2 a = some o) : SqL K H2 r xs := by
  rcases h with (h | ⟨o, h⟩) | h
  · exact .inl (.inl (k _ _ hr h))
  · exact .inl (.inr ⟨o, k _ _ hr h⟩)
  · exact .inr h
theorem RowAt.but {H1 H2 : Hp} {D r : Addr} {zs : List V} {l : List TimBuck.Step} (hD : H1 D = some (.lst zs)) (hr : r ≠ D) (h : RowAt K H1 r l) (k : ∀ a o, a ≠ D → H1 a = some o → H2 a = some o) : RowAt K H2 r l := by
  obtain ⟨ts, h1, h2⟩ := h
  exact ⟨ts, sqL_but (zs := zs) hr h1 k, Paired.mapP h2 fun _ _ z => sqT_but hD z k⟩
/-- a new board -/
def isB (K : PySem.W.Frag) (b : List (List TimBuck.Step)) : Hp → V → Hp → Prop := fun H v H' => ∃ p : Addr, v = .ref p ∧ H p = none ∧ BoardAt K H' p b
theorem isB_mono {b : List (List TimBuck.Step)} : ∀ H1 H2 v H3, Ex H1 H2 → isB K b H2 v H3 → isB K b H1 v H3 := fun H1 H2 v H3 e ⟨p, h1, h2, h3⟩ => ⟨p, h1, fresh_back e h2, h3⟩
abbrev RetB (K : PySem.W.Frag) (b : List (List TimBuck.Step)) (H : Hp) (Q : VK) : Prop := ∀ p H', H p = none → Ex H H' → BoardAt K H' p b → Q (.ref p) H'
theorem isB_of {b : List (List TimBuck.Step)} {Q : VK} (q : ∀ v H2, Ex H H2 → isB K b H v H2 → Q v H2) : RetB K b H Q := fun p H' hp e h1 => q _ _ e ⟨p, rfl, hp, h1⟩
def boardL (s : Stem) (ps : TimBuck.Products) : List (List TimBuck.Step) := (List.range ((s.top - s.foot) / 10 + 1)).map fun i => stepsAt s ps (s.foot + 10 * i)
/-- items that are rows of a board -/
def isRow (K : PySem.W.Frag) (b : List (List TimBuck.Step)) (D : Addr) (i : Nat) (y : V) (H : Hp) : Prop := ∃ r l, y = .ref r ∧ r ≠ D ∧ b[i]? = some l ∧ RowAt K H r l
theorem isRow_mono {b : List (List TimBuck.Step)} : ∀ D i y H1 H2 zs, H1 D = some (.lst zs) → isRow K b D i y H1 → (∀ a o, a ≠ D → H1 a = some o → H2 a = some o) → isRow K b D i y H2 := fun D i y H1 H2 zs hD ⟨r, l, h1, h2, h3, h4⟩ k => ⟨r, l, h1, h2, h3, h4.but hD h2 k⟩
theorem board_made {b : List (List TimBuck.Step)} {p : Addr} {ys : List V} {H2 : Hp} (h : H2 p = some (.lst ys)) (hl : ys.length = b.length) (hy : ∀ j y, ys[j]? = some y → isRow K b p j y H2) : BoardAt K H2 p b := by
  obtain ⟨rows, rfl, hr⟩ := refs_of (F := RowAt K H2) (ks := b) hl fun j y l h1 h2 => by
    obtain ⟨r, l', e1, _, e2, e3⟩ := hy j y h1
    rw [h2] at e2
    cases e2
    exact ⟨r, e1, e3⟩
  exact ⟨rows, sq_of h, hr⟩
def sp_board_of (K : PySem.W.Frag) : Sp := fun vs H Q _ => ∃ (A : StA) (s : Stem) (pl : Addr) (pr : List (Option PrA)) (ps : TimBuck.Products), vs = [.ref A.s, .ref pl] ∧ StemAt K H A s ∧ ProdsAt K H pl pr ps ∧ RetB K (boardL s ps) H Q
theorem len_board_of (h : sp_board_of K vs H Q E) : vs.length = 2 := by
  obtain ⟨a, b, c, d, e, rfl, _⟩ := h
  rfl
abbrev NL_board_of : List Str := ["stem", "products", "kinds", "height"]
theorem sc_board_of : FnScope NL_board_of ["stem", "products"] (defScope s_board_of) := ⟨rfl, rfl, rfl, by decide +kernel, rfl, by decide +kernel, by decide +kernel⟩
def t_board_of (K : PySem.W.Frag) : TS := (tSeq (tAsg (tCall (sp_kinds_of K) [] E0 (tCons (tVar 1) tNil)) (gName 2))
    (tRet (tLc (iRng3 (tCons (tMeth (He.ga K "Stem") "foot" (sp_Stem_foot K) [] E0 (tVar 0) tNil) (tCons (tOp (rI0 fun i j => .int (i + j)) (tFld K (tVar 0) "top") (tC (.int 1))) (tCons (tC (.int 10)) tNil)))) (gName 3) tYes (tCall (sp_steps_at K) [] E0 (tCons (tVar 0) (tCons (tVar 1) (tCons (tVar 2) (tCons (tVar 3) tNil))))) [3])))
theorem w_board_of (T : Txt K mg) (cdv : Value) (A : Around) (outer : List Env) (s : Shared) (H : Hp) (E : XK) (hr : Room 3 (A.deeper (envOfC "board_of" (defScope s_board_of) s.heap.objs.size (He.fAd K ("board_of", none)) cdv))) :
    PSs (cxOf CX0 P w K mg base NL_board_of "board_of" (defScope s_board_of) (He.fAd K ("board_of", none)) cdv A outer s H E).nox (defBody s_board_of) (t_board_of K) := by
  exact (pss_cons (ps_set (i := 2) sc_board_of.nd rfl (.inr rfl) (pe_callG (ok_kinds_of T) (hr.mono (by decide)) rfl (T.glo 39 rfl) (pa_cons (pv 1) pa_nil)))
    (pss_one (ps_ret (pe_lc (own := [("height", 3)]) (g := gName 3) (tt := tYes) rfl sc_board_of.nd (pi_range3 rfl (T.free 79 rfl) (pa_cons (pe_methG0 (pv 0) (T.cls 101 rfl) (T.meth 110 rfl) (ok_Stem_foot T) (hr.mono (by decide))) (pa_cons (pe_op op_add (pe_fld (pv 0) rfl) (by exact pe_int)) (pa_cons (by exact pe_int) pa_nil)))) (blkOk_by (own := [("height", 3)]) (N := NL_board_of) (sc := (defScope s_board_of)) (by decide +kernel)) (fun _ _ _ _ _ => pg_name (i := 3) sc_board_of.nd rfl (.inl rfl)) (fun _ _ _ _ _ => pts_nil) (fun _ _ _ _ _ => (pe_callG (ok_steps_at T) (hr.mono (by decide)) rfl (T.glo 40 rfl) (pa_cons (pv 0) (pa_cons (pv 1) (pa_cons (pv 2) (pa_cons (pv 3) pa_nil))))))))))
theorem pure_board_of (T : Txt K mg) (h : sp_board_of K vs H Q E) : t_board_of K { nx := fun _ H' => Q .non H', rt := Q } (start NL_board_of vs) H := by
  obtain ⟨A, s, pl, pr, ps, rfl, hs, hp, k⟩ := h
  have t1 := hs.ok.topLe
  have t2 := hs.ok.top10
  have f1 := hs.ok.foot
  have f2 := hs.ok.foot10
  refine q_asgX (ex_call (X := isT K (kindsS ps)) (ea_cons (ev_var rfl) ea_nil) (fun H1 e Q' q => ⟨pl, pr, ps, rfl, hp.mono e, isT_of q⟩) isT_mono) fun v H1 e1 hv => ?_
  obtain ⟨aK, tK, rfl, hfr, hK, hT⟩ := hv
  have hs1 := hs.mono e1
  have hp1 := hp.mono e1
  refine lc_relC (lo := (s.foot : Int)) (hi := (s.top : Int) + 1) (c := 10) (n := (s.top - s.foot) / 10 + 1) (isRow K (boardL s ps)) isRow_mono (ea_cons (ev_S0 (ev_var rfl) hs1 (stF_no (by decide +kernel))) (ea_cons (ev_add (evS_top T (ev_var rfl) hs1) ev_c) (ea_cons ev_c ea_nil))) (RgC_up' (by omega) (by omega) (by omega) (by omega) (by decide) (by decide) (by rw [if_pos (by omega)]; omega)) (by omega) (fun _ => rfl) ?_ ?_
  · intro D i H2 zs hD e2 hz hi Q' q
    have ei : (s.foot : Int) + (i : Nat) * 10 = ((s.foot + 10 * i : Nat) : Int) := by omega
    rw [ei]
    refine (ea_cons (ev_var rfl) (ea_cons (ev_var rfl) (ea_cons (ev_var rfl) (ea_cons (ev_var rfl) ea_nil))) : EvA (tCons (tVar 0) (tCons (tVar 1) (tCons (tVar 2) (tCons (tVar 3) tNil)))) [some (.ref A.s), some (.ref pl), some (.ref aK), some (.int ((s.foot + 10 * i : Nat) : Int))] H2 _) H2 (Ex.refl H2) _ fun H3 e3 => ?_
    refine ⟨A, s, pl, pr, ps, aK, tK, s.foot + 10 * i, rfl, hs1.mono (e2.trans e3), hp1.mono (e2.trans e3), sq_of ((e2.trans e3) _ _ hK), tups_ex (e2.trans e3) hT, by omega, fun r ts H4 hr e4 h4 h5 => q _ _ (e3.trans e4) ⟨r, _, rfl, ?_, ?_, ts, sq_of h4, h5⟩⟩
    · rintro rfl
      rw [e3 _ _ hz] at hr
      cases hr
    · unfold boardL
      rw [List.getElem?_map, List.getElem?_range hi]
      rfl
  · intro p' p ys H2 hpn e2 h2 hl hy z
    cases z
    refine k _ H2 (fresh_back e1 hpn) (e1.trans e2) (board_made h2 ?_ hy)
    rw [hl]
    unfold boardL
    rw [List.length_map, List.length_range]
theorem ok_board_of (T : Txt K mg) : Good P w K mg base ("board_of", none) 4 ["stem", "products"] (sp_board_of K) :=
  good_mk (d := d_board_of) T 59 rfl rfl rfl sc_board_of (fun vs H Q E h => len_board_of h) (fun _ _ _ _ _ _ us hl => match us, hl with | [_, _], _ => rfl) (fun cdv A outer s H E hr => w_board_of T cdv A outer s H E hr) (fun vs H Q E h => pure_board_of T h)
end
end Sb
end
section
set_option maxHeartbeats 4000000
namespace Sb
open PySem PySem.Spec PySem.Calls PyProof.Rows L2 Evl
open TimBuck (Stem Product Piece diameterIn Log)
/-! ## a step's four numbers -/
def cellsS (x : TimBuck.Step) : Nat := x.takes / 10
def kS : TimBuck.Step → Int
  | .log x => (x.product : Int)
  | .waste => -1
def longS : TimBuck.Step → Nat
  | .log x => x.long
  | .waste => 10
def worthS : TimBuck.Step → Nat
  | .log x => x.worth
  | .waste => 0
theorem stepI_eq (x : TimBuck.Step) : stepI x = [(cellsS x : Int), kS x, (longS x : Int), (worthS x : Int)] := by
  cases x <;> rfl
structure BoardOk (b : List (List TimBuck.Step)) : Prop where
  len : b.length ≤ 201
  pos : 1 ≤ b.length
  row : ∀ (i : Nat) (l : List TimBuck.Step), b[i]? = some l → l.length ≤ 2000
  ne : ∀ (i : Nat) (l : List TimBuck.Step), b[i]? = some l → i + 1 < b.length → l ≠ []
  fit : ∀ (i : Nat) (l : List TimBuck.Step), b[i]? = some l → ∀ x ∈ l, 1 ≤ cellsS x ∧ i + cellsS x < b.length
section
variable {K : PySem.W.Frag} {σ : L2.St} {H : Hp}
theorem s_appX {D : Ends} {te ta : TE} {X : Hp → V → Hp → Prop} {l : Addr} {xs : List V} (hl : H l = some (.lst xs)) (ha : Ev ta σ H (.ref l)) (h : EvX te σ H X) (mono : ∀ H1 H2 v H3, Ex H1 H2 → X H2 v H3 → X H1 v H3) (hz : xs.length < 100000) (k : ∀ v H1, Ex H H1 → X H v H1 → D.nx σ (upd H1 l (.lst (xs ++ [v])))) : tDrop (tBM K "list" rAppend ta (tCons te tNil)) D σ H :=
  ha H (Ex.refl H) _ fun H1 e1 => ⟨Or.inl ⟨rfl, xs, sq_of (e1 l _ hl)⟩, h H1 e1 _ fun v H2 e2 h2 => ⟨l, xs, v, rfl, rfl, e2 l _ (e1 l _ hl), sz_lt hz, k v H2 (e1.trans e2) (mono _ _ _ _ e1 h2)⟩⟩
/-- a row by pairs: the tuple's address, the step -/
theorem RowAt.zs {r : Addr} {l : List TimBuck.Step} (h : RowAt K H r l) : ∃ zs : List (Addr × TimBuck.Step), SqL K H r (zs.map fun z => V.ref z.1) ∧ zs.map (fun z => z.2) = l ∧ ∀ z ∈ zs, SqT K H z.1 ((stepI z.2).map V.int) := by
  obtain ⟨ts, h1, h2⟩ := h
  have hl : ts.length = l.length := by rw [h2.length, List.length_map]
  refine ⟨ts.zip l, ?_, List.map_snd_zip (by omega), fun z hz => ?_⟩
  · rw [show ((ts.zip l).map fun z => V.ref z.1) = ((ts.zip l).map Prod.fst).map V.ref by rw [List.map_map]; rfl, List.map_fst_zip (by omega)]
    exact h1
  · obtain ⟨i, hi⟩ := List.getElem?_of_mem hz
    have h3 : ts[i]? = some z.1 ∧ l[i]? = some z.2 := List.getElem?_zip_eq_some.mp hi
    exact paired_get2 h2 h3.1 (by rw [List.getElem?_map, h3.2]; rfl)
theorem RowAt.of_zs {r : Addr} : ∀ {zs : List (Addr × TimBuck.Step)}, SqL K H r (zs.map fun z => V.ref z.1) → (∀ z ∈ zs, SqT K H z.1 ((stepI z.2).map V.int)) → RowAt K H r (zs.map fun z => z.2) := fun {zs} h1 h2 => by
  refine ⟨zs.map Prod.fst, by rw [List.map_map]; exact h1, ?_⟩
  clear h1
  induction zs with
  | nil => exact .nil
  | cons z zs ih => exact .cons (h2 z (List.mem_cons_self ..)) (ih fun y hy => h2 y (List.mem_cons_of_mem _ hy))
/-- [step for step in steps if ..] -/
theorem lc_keepP {tl : TE} {tt : TT} {a : Addr} {zs : List (Addr × TimBuck.Step)} {j : Nat} {vs : List Nat} {Q : VK} (g : TimBuck.Step → Bool) (h : Ev tl σ H (.ref a)) (hx : SqL K H a (zs.map fun z => V.ref z.1)) (hz : zs.length < 100000) (hw : ∀ x, wipe ((wipe σ vs).set j (some x)) vs = wipe σ vs)
    (hj : ∀ x, ((wipe σ vs).set j (some x))[j]? = some (some x)) (ht : ∀ (t : Addr) (x : TimBuck.Step) H1, Ex H H1 → (t, x) ∈ zs → EvT tt ((wipe σ vs).set j (some (.ref t))) H1 (g x))
    (k : ∀ p H2, H p = none → Ex H H2 → H2 p = some (.lst ((zs.filter fun z => g z.2).map fun z => V.ref z.1)) → Q (.ref p) H2) : tLc (iList K tl) (gName j) tt (tVar j) vs σ H Q := h H (Ex.refl H) _ fun H0 e0 => ⟨a, rfl, ⟨_, ex_l e0 hx⟩, fun D hD =>
  lc_list (xs := zs.map fun z => V.ref z.1) (fun i H' => Ex H0 H' ∧ H' D = some (.lst (((zs.take i).filter fun z => g z.2).map fun z => V.ref z.1))) ⟨Ex.new hD, upd_same⟩ (fun i H' _ m => ex_l (e0.trans m.1) hx) (fun i y H' hi m => ⟨hw _, by
      obtain ⟨⟨t, x⟩, hz', rfl⟩ := map_at hi
      show tt ((wipe σ vs).set j (some (.ref t))) H' fun b H3 => _
      refine ht t x H' (e0.trans m.1) (List.mem_of_getElem? hz') H' (Ex.refl H') _ fun H3 e3 => ?_
      rw [get_take hz', List.filter_append, List.map_append]
      cases hf : g x with
      | true =>
        show tVar j ((wipe σ vs).set j (some (.ref t))) H3 fun y H4 => _
        refine ⟨.ref t, hj _, _, e3 _ _ m.2, sz_lt ?_, Ex.mut (m.1.trans e3) hD, ?_⟩
        · have := List.length_filter_le (fun z : Addr × TimBuck.Step => g z.2) (zs.take i)
          rw [List.length_take] at this
          rw [List.length_map]
          omega
        · rw [List.filter_cons, if_pos hf, List.filter_nil]
          exact upd_same
      | false =>
        show _ ∧ _
        refine ⟨m.1.trans e3, ?_⟩
        rw [List.filter_cons, if_neg (by rw [hf]; decide), List.filter_nil, List.map_nil, List.append_nil]
        exact e3 _ _ m.2⟩)
    (fun H' m => by
      rw [List.length_map, List.take_length] at m
      exact k D H' (fresh_back e0 hD) (e0.trans m.1) m.2)⟩
theorem filter_snd (g : TimBuck.Step → Bool) : ∀ zs : List (Addr × TimBuck.Step), (zs.filter fun z => g z.2).map (fun z => z.2) = (zs.map fun z => z.2).filter g
  | [] => rfl
  | z :: zs => by
    rw [List.map_cons, List.filter_cons, List.filter_cons]
    cases g z.2 with
    | true => exact congrArg _ (filter_snd g zs)
    | false => exact filter_snd g zs
/-- the same, of a row -/
theorem lc_keepR {tl : TE} {tt : TT} {a : Addr} {l : List TimBuck.Step} {j : Nat} {vs : List Nat} {Q : VK} (g : TimBuck.Step → Bool) (h : Ev tl σ H (.ref a)) (hx : RowAt K H a l) (hz : l.length < 100000) (hw : ∀ x, wipe ((wipe σ vs).set j (some x)) vs = wipe σ vs)
    (hj : ∀ x, ((wipe σ vs).set j (some x))[j]? = some (some x)) (ht : ∀ (t : Addr) (x : TimBuck.Step) H1, Ex H H1 → x ∈ l → SqT K H1 t ((stepI x).map V.int) → EvT tt ((wipe σ vs).set j (some (.ref t))) H1 (g x))
    (k : ∀ p H2, H p = none → Ex H H2 → RowAt K H2 p (l.filter g) → (∃ xs, H2 p = some (.lst xs)) → Q (.ref p) H2) : tLc (iList K tl) (gName j) tt (tVar j) vs σ H Q := by
  obtain ⟨zs, h1, rfl, h3⟩ := hx.zs
  refine lc_keepP g h h1 (by rw [List.length_map] at hz; exact hz) hw hj (fun t x H1 e hm => ht t x H1 e (List.mem_map.mpr ⟨_, hm, rfl⟩) (ex_t e (h3 _ hm))) fun p H2 hp e2 h2 => k p H2 hp e2 ?_ ⟨_, h2⟩
  rw [← filter_snd]
  exact RowAt.of_zs (sq_of h2) fun z hz => ex_t e2 (h3 z (List.mem_filter.mp hz).1)
/-- a loop over a row -/
theorem s_forRow {D : Ends} {tu : TS} {tl : TE} {a : Addr} {l : List TimBuck.Step} {gs : TGs} {H0 : Hp} (h : Ev tl σ H (.ref a)) (hx : RowAt K H0 a l) (Pv : Nat → L2.St → Hp → Prop) (h0 : ∀ H1, Ex H H1 → Pv 0 σ H1) (ex : ∀ i σ' H', Pv i σ' H' → Ex H0 H')
    (hs : ∀ i x σ' H', l[i]? = some x → Pv i σ' H' → gs [.int (cellsS x : Int), .int (kS x), .int (longS x : Int), .int (worthS x : Int)] σ' H' fun σ2 H2 => tu { D with nx := Pv (i + 1), ct := Pv (i + 1), bk := D.nx } σ2 H2) (hd : ∀ σ' H', Pv l.length σ' H' → D.nx σ' H') : tFor (iList K tl) (gTup K 4 gs) tu D σ H := by
  obtain ⟨ts, h1, h2⟩ := hx
  refine s_forTup h h1 h2 Pv h0 ex (fun i k σ' H' hk p => ?_) (by rw [List.length_map]; exact hd)
  obtain ⟨x, hx, rfl⟩ := map_at hk
  rw [stepI_eq]
  exact ⟨rfl, hs i x σ' H' hx p⟩
theorem q_forRow {D : Ends} {tu tz : TS} {tl : TE} {a : Addr} {l : List TimBuck.Step} {gs : TGs} {H0 : Hp} (h : Ev tl σ H (.ref a)) (hx : RowAt K H0 a l) (Pv : Nat → L2.St → Hp → Prop) (h0 : ∀ H1, Ex H H1 → Pv 0 σ H1) (ex : ∀ i σ' H', Pv i σ' H' → Ex H0 H')
    (hs : ∀ i x σ' H', l[i]? = some x → Pv i σ' H' → gs [.int (cellsS x : Int), .int (kS x), .int (longS x : Int), .int (worthS x : Int)] σ' H' fun σ2 H2 => tu { D with nx := Pv (i + 1), ct := Pv (i + 1), bk := tz D } σ2 H2) (hd : ∀ σ' H', Pv l.length σ' H' → tz D σ' H') : tSeq (tFor (iList K tl) (gTup K 4 gs) tu) tz D σ H :=
  s_forRow (D := { D with nx := tz D }) h hx Pv h0 ex hs hd
theorem BoardAt.rows {a : Addr} {b : List (List TimBuck.Step)} {rows : List Addr} (h : Paired (RowAt K H) rows b) {i : Nat} {y : V} (hi : (rows.map V.ref)[i]? = some y) : ∃ r l, y = .ref r ∧ b[i]? = some l ∧ RowAt K H r l := by
  obtain ⟨r, hr, rfl⟩ := map_at hi
  have hl := h.length
  have hlt := (List.getElem?_eq_some_iff.mp hr).1
  have e : b[i]? = some b[i] := List.getElem?_eq_getElem (by omega)
  exact ⟨r, _, rfl, e, paired_get2 h hr e⟩
/-- board[at] -/
theorem BoardAt.ix {a : Addr} {b : List (List TimBuck.Step)} {i : Nat} {l : List TimBuck.Step} {ta tb : TE} (h : BoardAt K H a b) (hi : b[i]? = some l) : ∃ r, RowAt K H r l ∧ ∀ {H'}, Ex H H' → Ev ta σ H' (.ref a) → Ev tb σ H' (.int (i : Int)) → Ev (tOp (rIxL K) ta tb) σ H' (.ref r) := by
  obtain ⟨rows, h1, h2⟩ := h
  have hl := h2.length
  have hlt := (List.getElem?_eq_some_iff.mp hi).1
  have e : rows[i]? = some rows[i] := List.getElem?_eq_getElem (by omega)
  exact ⟨_, paired_get2 h2 e hi, fun {H'} e' ha hb => ev_ixL ha hb (ex_l e' h1) (at_ref rfl e)⟩
theorem BoardAt.lenE {a : Addr} {b : List (List TimBuck.Step)} {ta : TE} (h : BoardAt K H a b) (ha : Ev ta σ H (.ref a)) : Ev (tCB (rLenS K) (tCons ta tNil)) σ H (.int (b.length : Int)) := by
  obtain ⟨rows, h1, h2⟩ := h
  exact ev_is (ev_len ha h1) (by rw [List.length_map, h2.length])
end
section
variable {P : Program} {w : World} {K : PySem.W.Frag} {mg : Str → Option Value} {base : Heap} {vs : List V} {H : Hp} {Q : VK} {E : XK}
def hasK (k : Int) (b : List (List TimBuck.Step)) : Bool := b.any fun l => l.any fun x => kS x == k
def sp_has_logs_of (K : PySem.W.Frag) : Sp := fun vs H Q _ => ∃ (aB : Addr) (b : List (List TimBuck.Step)) (k : Int), vs = [.ref aB, .int k] ∧ BoardAt K H aB b ∧ ∀ H', Ex H H' → Q (.bl (hasK k b)) H'
theorem len_has_logs_of (h : sp_has_logs_of K vs H Q E) : vs.length = 2 := by
  obtain ⟨a, b, c, rfl, _⟩ := h
  rfl
abbrev NL_has_logs_of : List Str := ["board", "k", "steps", "cells", "product", "paid", "worth"]
theorem sc_has_logs_of : FnScope NL_has_logs_of ["board", "k"] (defScope s_has_logs_of) := ⟨rfl, rfl, rfl, by decide +kernel, rfl, by decide +kernel, by decide +kernel⟩
def t_has_logs_of (K : PySem.W.Frag) : TS := (tSeq (tFor (iList K (tVar 0)) (gName 2) (tFor (iList K (tVar 2)) (gTup K 4 (gCons (gName 3) (gCons (gName 4) (gCons (gName 5) (gCons (gName 6) gNil))))) (tIfS (tTest (tOp rEq (tVar 4) (tVar 1))) (tRet (tC (.bl true))) tNext)))
    (tRet (tC (.bl false))))
theorem w_has_logs_of (T : Txt K mg) (cdv : Value) (A : Around) (outer : List Env) (s : Shared) (H : Hp) (E : XK) (hr : Room 0 (A.deeper (envOfC "has_logs_of" (defScope s_has_logs_of) s.heap.objs.size (He.fAd K ("has_logs_of", none)) cdv))) :
    PSs (cxOf CX0 P w K mg base NL_has_logs_of "has_logs_of" (defScope s_has_logs_of) (He.fAd K ("has_logs_of", none)) cdv A outer s H E).nox (defBody s_has_logs_of) (t_has_logs_of K) := by
  exact (pss_cons (ps_for PassesOwn.never rfl (pi_list (pv 0)) (pg_name (i := 2) sc_has_logs_of.nd rfl (.inl rfl)) (pss_one (ps_for PassesOwn.never rfl (pi_list (pv 2)) (pg_tup rfl (pgs_cons (pg_name (i := 3) sc_has_logs_of.nd rfl (.inl rfl)) (pgs_cons (pg_name (i := 4) sc_has_logs_of.nd rfl (.inl rfl)) (pgs_cons (pg_name (i := 5) sc_has_logs_of.nd rfl (.inl rfl)) (pgs_cons (pg_name (i := 6) sc_has_logs_of.nd rfl (.inl rfl)) pgs_nil))))) (pss_one (ps_if (pt_cmpR op_eq (pv 4) (pv 1) (nomark _)) (pss_one (ps_ret (by exact pe_bl))) pss_nil)))))
    (pss_one (ps_ret (by exact pe_bl))))
theorem pure_has_logs_of (T : Txt K mg) (h : sp_has_logs_of K vs H Q E) : t_has_logs_of K { nx := fun _ H' => Q .non H', rt := Q } (start NL_has_logs_of vs) H := by
  obtain ⟨aB, b, k', rfl, ⟨rows, hb1, hb2⟩, k⟩ := h
  refine q_forLn (ev_var rfl) hb1 (fun i σ' H' => ∃ (u v w x y : Option V), σ' = [some (.ref aB), some (.int k'), u, v, w, x, y] ∧ Ex H H' ∧ hasK k' (b.take i) = false) (fun H1 e => ⟨_, _, _, _, _, rfl, e, rfl⟩) (fun i σ' H' _ ⟨_, _, _, _, _, _, e, _⟩ => ex_l e hb1) ?_ ?_
  · rintro i y σ' H' hi ⟨u, v, w', x, y', rfl, e, hf⟩
    obtain ⟨r, l, rfl, hl, hr⟩ := BoardAt.rows (a := aB) hb2 hi
    show tFor _ _ _ _ [some (.ref aB), some (.int k'), some (.ref r), v, w', x, y'] H'
    have hbt : ∀ z, hasK k' (b.take i ++ [z]) = (hasK k' (b.take i) || z.any fun x => kS x == k') := fun z => by
      unfold hasK
      rw [List.any_append, List.any_cons, List.any_nil, Bool.or_false]
    refine s_forRow (H0 := H) (ev_var rfl) hr (fun j σ' H' => ∃ (v w x y : Option V), σ' = [some (.ref aB), some (.int k'), some (.ref r), v, w, x, y] ∧ Ex H H' ∧ ((l.take j).any fun x => kS x == k') = false) (fun H1 e1 => ⟨_, _, _, _, rfl, e.trans e1, rfl⟩) (fun j σ' H' ⟨_, _, _, _, _, e, _⟩ => e) ?_ ?_
    · rintro j s σ' H' hs ⟨v, w', x, y, rfl, e, hf2⟩
      refine ⟨_, _, rfl, _, _, rfl, _, _, rfl, _, _, rfl, rfl, ?_⟩
      show tIfS _ _ _ _ [some (.ref aB), some (.int k'), some (.ref r), some (.int (cellsS s : Int)), some (.int (kS s)), some (.int (longS s : Int)), some (.int (worthS s : Int))] H'
      refine s_when (et_test (ev_eqi (ev_var rfl) (ev_var rfl))) (fun hb H2 e2 => s_ret ev_c fun H3 e3 => ?_) (fun hb H2 e2 => ⟨_, _, _, _, rfl, e.trans e2, ?_⟩)
      · have z := k H3 ((e.trans e2).trans e3)
        rw [show hasK k' b = true from List.any_eq_true.mpr ⟨l, List.mem_of_getElem? hl, List.any_eq_true.mpr ⟨s, List.mem_of_getElem? hs, hb⟩⟩] at z
        exact z
      · rw [any_take_succ hs, hf2, hb]
        rfl
    · rintro σ' H' ⟨v, w', x, y, rfl, e, hf2⟩
      refine ⟨_, _, _, _, _, rfl, e, ?_⟩
      rw [List.take_length] at hf2
      rw [get_take hl, hbt, hf, hf2]
      rfl
  · rintro σ' H' ⟨u, v, w', x, y', rfl, e, hf⟩
    rw [List.length_map, hb2.length, List.take_length] at hf
    refine s_ret ev_c fun H2 e2 => ?_
    have z := k H2 (e.trans e2)
    rw [hf] at z
    exact z
theorem ok_has_logs_of (T : Txt K mg) : Good P w K mg base ("has_logs_of", none) 1 ["board", "k"] (sp_has_logs_of K) :=
  good_mk (d := d_has_logs_of) T 60 rfl rfl rfl sc_has_logs_of (fun vs H Q E h => len_has_logs_of h) (fun _ _ _ _ _ _ us hl => match us, hl with | [_, _], _ => rfl) (fun cdv A outer s H E hr => w_has_logs_of T cdv A outer s H E hr) (fun vs H Q E h => pure_has_logs_of T h)
def keepF (bg a b : Nat) (x : TimBuck.Step) : Bool := kS x == -1 || (decide (b ≤ bg) || decide (bg + 10 * cellsS x ≤ a))
def sp_takes_none_of (K : PySem.W.Frag) : Sp := fun vs H Q _ => ∃ (t : Addr) (x : TimBuck.Step) (bg a b : Nat), vs = [.ref t, .int (bg : Int), .int (a : Int), .int (b : Int)] ∧ SqT K H t ((stepI x).map V.int) ∧ ∀ H', Ex H H' → Q (.bl (keepF bg a b x)) H'
theorem len_takes_none_of (h : sp_takes_none_of K vs H Q E) : vs.length = 4 := by
  obtain ⟨a, b, c, d, e, rfl, _⟩ := h
  rfl
abbrev NL_takes_none_of : List Str := ["step", "begin", "a", "b", "cells", "k", "paid", "worth"]
theorem sc_takes_none_of : FnScope NL_takes_none_of ["step", "begin", "a", "b"] (defScope s_takes_none_of) := ⟨rfl, rfl, rfl, by decide +kernel, rfl, by decide +kernel, by decide +kernel⟩
def t_takes_none_of (K : PySem.W.Frag) : TS := (tSeq (tAsg (tVar 0) (gTup K 4 (gCons (gName 4) (gCons (gName 5) (gCons (gName 6) (gCons (gName 7) gNil))))))
    (tRet (tOrV (tOp rEq (tVar 5) (tUn (rU fun i => .int (-i)) (tC (.int 1)))) (tOrV (tOp (rI0 fun i j => .bl (decide (j ≤ i))) (tVar 1) (tVar 3)) (tOp (rI0 fun i j => .bl (decide (i ≤ j))) (tOp (rI0 fun i j => .int (i + j)) (tVar 1) (tOp (rI CMul fun i j => .int (i * j)) (tC (.int 10)) (tVar 4))) (tVar 2))))))
theorem w_takes_none_of (T : Txt K mg) (cdv : Value) (A : Around) (outer : List Env) (s : Shared) (H : Hp) (E : XK) (hr : Room 0 (A.deeper (envOfC "takes_none_of" (defScope s_takes_none_of) s.heap.objs.size (He.fAd K ("takes_none_of", none)) cdv))) :
    PSs (cxOf CX0 P w K mg base NL_takes_none_of "takes_none_of" (defScope s_takes_none_of) (He.fAd K ("takes_none_of", none)) cdv A outer s H E).nox (defBody s_takes_none_of) (t_takes_none_of K) := by
  exact (pss_cons (ps_asg (pv 0) (pg_tup rfl (pgs_cons (pg_name (i := 4) sc_takes_none_of.nd rfl (.inl rfl)) (pgs_cons (pg_name (i := 5) sc_takes_none_of.nd rfl (.inl rfl)) (pgs_cons (pg_name (i := 6) sc_takes_none_of.nd rfl (.inl rfl)) (pgs_cons (pg_name (i := 7) sc_takes_none_of.nd rfl (.inl rfl)) pgs_nil))))))
    (pss_one (ps_ret (pe_or (pe_cmpR op_eq (pv 5) (pe_un un_neg (by exact pe_int)) (nomark _)) (pe_or (pe_cmpR op_ge (pv 1) (pv 3) (nomark _)) (pe_one (pe_cmpR op_le (pe_op op_add (pv 1) (pe_op op_mul (by exact pe_int) (pv 4))) (pv 2) (nomark _))))))))
theorem pure_takes_none_of (T : Txt K mg) (h : sp_takes_none_of K vs H Q E) : t_takes_none_of K { nx := fun _ H' => Q .non H', rt := Q } (start NL_takes_none_of vs) H := by
  obtain ⟨t, x, bg, a, b, rfl, ht, k⟩ := h
  rw [stepI_eq] at ht
  refine q_unT (σ' := [some (.ref t), some (.int (bg : Int)), some (.int (a : Int)), some (.int (b : Int)), some (.int (cellsS x : Int)), some (.int (kS x)), some (.int (longS x : Int)), some (.int (worthS x : Int))]) (ev_var rfl) ht rfl (fun H' Q q => ⟨_, _, rfl, _, _, rfl, _, _, rfl, _, _, rfl, rfl, q⟩) fun H1 e1 => ?_
  refine s_ret (ev_bl (ev_orV (ev_eqi (ev_var rfl) (ev_neg ev_c)) fun _ => ev_orV (ev_ge (ev_var rfl) (ev_var rfl)) fun _ => ev_le (ev_add (ev_var rfl) (ev_mul ev_c (ev_var rfl) (.inl (by decide)))) (ev_var rfl)) ?_) fun H2 e2 => k H2 (e1.trans e2)
  unfold keepF
  congr 1
  congr 1
  · exact decide_eq_decide.mpr (by omega)
  · exact decide_eq_decide.mpr (by omega)
theorem ok_takes_none_of (T : Txt K mg) : Good P w K mg base ("takes_none_of", none) 1 ["step", "begin", "a", "b"] (sp_takes_none_of K) :=
  good_mk (d := d_takes_none_of) T 62 rfl rfl rfl sc_takes_none_of (fun vs H Q E h => len_takes_none_of h) (fun _ _ _ _ _ _ us hl => match us, hl with | [_, _, _, _], _ => rfl) (fun cdv A outer s H E hr => w_takes_none_of T cdv A outer s H E hr) (fun vs H Q E h => pure_takes_none_of T h)
def sp_board_without_product (K : PySem.W.Frag) : Sp := fun vs H Q _ => ∃ (aB : Addr) (b : List (List TimBuck.Step)) (k : Int), vs = [.ref aB, .int k] ∧ BoardAt K H aB b ∧ BoardOk b ∧ RetB K (b.map fun l => l.filter fun x => !(kS x == k)) H Q
theorem len_board_without_product (h : sp_board_without_product K vs H Q E) : vs.length = 2 := by
  obtain ⟨a, b, c, rfl, _⟩ := h
  rfl
abbrev NL_board_without_product : List Str := ["board", "k", "steps", "step"]
theorem sc_board_without_product : FnScope NL_board_without_product ["board", "k"] (defScope s_board_without_product) := ⟨rfl, rfl, rfl, by decide +kernel, rfl, by decide +kernel, by decide +kernel⟩
def t_board_without_product (K : PySem.W.Frag) : TS := (tRet (tLc (iList K (tVar 0)) (gName 2) tYes (tLc (iList K (tVar 2)) (gName 3) (tTest (tOp rNe (tOp (rIxT K) (tVar 3) (tC (.int 1))) (tVar 1))) (tVar 3) [3]) [2]))
theorem w_board_without_product (T : Txt K mg) (cdv : Value) (A : Around) (outer : List Env) (s : Shared) (H : Hp) (E : XK) (hr : Room 0 (A.deeper (envOfC "board_without_product" (defScope s_board_without_product) s.heap.objs.size (He.fAd K ("board_without_product", none)) cdv))) :
    PSs (cxOf CX0 P w K mg base NL_board_without_product "board_without_product" (defScope s_board_without_product) (He.fAd K ("board_without_product", none)) cdv A outer s H E).nox (defBody s_board_without_product) (t_board_without_product K) := by
  exact (pss_one (ps_ret (pe_lc (own := [("steps", 2)]) (g := gName 2) (tt := tYes) rfl sc_board_without_product.nd (pi_list (pv 0)) (blkOk_by (own := [("steps", 2)]) (N := NL_board_without_product) (sc := (defScope s_board_without_product)) (by decide +kernel)) (fun _ _ _ _ _ => pg_name (i := 2) sc_board_without_product.nd rfl (.inl rfl)) (fun _ _ _ _ _ => pts_nil) (fun _ _ _ _ _ => (pe_lc (own := [("step", 3)]) (g := gName 3) (tt := (tTest (tOp rNe (tOp (rIxT K) (tVar 3) (tC (.int 1))) (tVar 1)))) rfl sc_board_without_product.nd (pi_list (pv 2)) (blkOk_by (own := [("step", 3)]) (N := NL_board_without_product) (sc := (relS (lcScope (defBody s_board_without_product)) (defScope s_board_without_product))) (by decide +kernel)) (fun _ _ _ _ _ => pg_name (i := 3) sc_board_without_product.nd rfl (.inl rfl)) (fun _ _ _ _ _ => (pts_one (pt_cmpR op_ne (pe_ix ix_tup (pv 3) (by exact pe_int) (fun _ _ => rfl)) (pv 1) (nomark _)))) (fun _ _ _ _ _ => (pv 3)))))))
theorem pure_board_without_product (T : Txt K mg) (h : sp_board_without_product K vs H Q E) : t_board_without_product K { nx := fun _ H' => Q .non H', rt := Q } (start NL_board_without_product vs) H := by
  obtain ⟨aB, b, k', rfl, ⟨rows, hb1, hb2⟩, ok, k⟩ := h
  have hlen := hb2.length
  have l201 := ok.len
  refine lc_relL (isRow K (b.map fun l => l.filter fun x => !(kS x == k'))) isRow_mono (ev_var rfl) hb1 (by rw [List.length_map]; omega) (fun _ => rfl) ?_ ?_
  · intro D i y H1 zs hD e1 hz hy Q' q
    obtain ⟨r, l, rfl, hl, hr⟩ := BoardAt.rows (a := aB) hb2 hy
    show tLc _ _ _ _ _ [some (.ref aB), some (.int k'), some (.ref r), none] H1 Q'
    have hl2 := ok.row i l hl
    refine lc_keepR (fun x => !(kS x == k')) (ev_var rfl) (hr.mono e1) (by omega) (fun _ => rfl) (fun _ => rfl) (fun t x H2 e2 hx ht => ?_) fun p H2 hp e2 h2 _ => q _ _ e2 ⟨p, _, rfl, ?_, ?_, h2⟩
    · rw [stepI_eq] at ht
      exact et_test (ev_nei (ev_ixT (ev_var rfl) ev_c ht rfl) (ev_var rfl))
    · rintro rfl
      rw [hz] at hp
      cases hp
    · rw [List.getElem?_map, hl]
      rfl
  · intro p' p ys H2 hpn e2 h2 hl hy z
    cases z
    refine k _ H2 hpn e2 (board_made h2 ?_ hy)
    rw [hl, List.length_map, List.length_map, hlen]
theorem ok_board_without_product (T : Txt K mg) : Good P w K mg base ("board_without_product", none) 1 ["board", "k"] (sp_board_without_product K) :=
  good_mk (d := d_board_without_product) T 61 rfl rfl rfl sc_board_without_product (fun vs H Q E h => len_board_without_product h) (fun _ _ _ _ _ _ us hl => match us, hl with | [_, _], _ => rfl) (fun cdv A outer s H E hr => w_board_without_product T cdv A outer s H E hr) (fun vs H Q E h => pure_board_without_product T h)
def sp_board_with_rot (K : PySem.W.Frag) : Sp := fun vs H Q _ => ∃ (aB : Addr) (b : List (List TimBuck.Step)) (f a c : Nat), vs = [.ref aB, .int (f : Int), .int (a : Int), .int (c : Int)] ∧ BoardAt K H aB b ∧ BoardOk b ∧ RetB K (b.zipIdx.map fun z => z.1.filter (keepF (f + 10 * z.2) a c)) H Q
theorem len_board_with_rot (h : sp_board_with_rot K vs H Q E) : vs.length = 4 := by
  obtain ⟨a, b, c, d, e, rfl, _⟩ := h
  rfl
abbrev NL_board_with_rot : List Str := ["board", "foot", "a", "b", "kept", "at", "steps", "begin", "step"]
theorem sc_board_with_rot : FnScope NL_board_with_rot ["board", "foot", "a", "b"] (defScope s_board_with_rot) := ⟨rfl, rfl, rfl, by decide +kernel, rfl, by decide +kernel, by decide +kernel⟩
def t_board_with_rot (K : PySem.W.Frag) : TS := (tSeq (tAsg (tLst tNil) (gName 4))
    (tSeq (tFor (iEnum K (tCons (tVar 0) tNil)) (gTup K 2 (gCons (gName 5) (gCons (gName 6) gNil))) (tSeq (tAsg (tOp (rI0 fun i j => .int (i + j)) (tVar 1) (tOp (rI CMul fun i j => .int (i * j)) (tC (.int 10)) (tVar 5))) (gName 7))
    (tDrop (tBM K "list" rAppend (tVar 4) (tCons (tLc (iList K (tVar 6)) (gName 8) (tB (tCall (sp_takes_none_of K) [] E0 (tCons (tVar 8) (tCons (tVar 7) (tCons (tVar 2) (tCons (tVar 3) tNil)))))) (tVar 8) [8]) tNil)))))
    (tRet (tVar 4))))
theorem w_board_with_rot (T : Txt K mg) (cdv : Value) (A : Around) (outer : List Env) (s : Shared) (H : Hp) (E : XK) (hr : Room 1 (A.deeper (envOfC "board_with_rot" (defScope s_board_with_rot) s.heap.objs.size (He.fAd K ("board_with_rot", none)) cdv))) :
    PSs (cxOf CX0 P w K mg base NL_board_with_rot "board_with_rot" (defScope s_board_with_rot) (He.fAd K ("board_with_rot", none)) cdv A outer s H E).nox (defBody s_board_with_rot) (t_board_with_rot K) := by
  exact (pss_cons (ps_set (i := 4) sc_board_with_rot.nd rfl (.inl rfl) (pe_lst pa_nil))
    (pss_cons (ps_for PassesOwn.never rfl (pi_enum rfl (T.free 86 rfl) (pa_cons (pv 0) pa_nil)) (pg_tup rfl (pgs_cons (pg_name (i := 5) sc_board_with_rot.nd rfl (.inl rfl)) (pgs_cons (pg_name (i := 6) sc_board_with_rot.nd rfl (.inl rfl)) pgs_nil))) (pss_cons (ps_set (i := 7) sc_board_with_rot.nd rfl (.inr rfl) (pe_op op_add (pv 1) (pe_op op_mul (by exact pe_int) (pv 5))))
    (pss_one (ps_expr (pe_bm PySem.F.plainAttrs_list PySem.F.slot_list_append PySem.F.type_list_append mt_append (pv 4) (pa_cons (pe_lc (own := [("step", 8)]) (g := gName 8) (tt := (tB (tCall (sp_takes_none_of K) [] E0 (tCons (tVar 8) (tCons (tVar 7) (tCons (tVar 2) (tCons (tVar 3) tNil))))))) rfl sc_board_with_rot.nd (pi_list (pv 6)) (blkOk_by (own := [("step", 8)]) (N := NL_board_with_rot) (sc := (defScope s_board_with_rot)) (by decide +kernel)) (fun _ _ _ _ _ => pg_name (i := 8) sc_board_with_rot.nd rfl (.inl rfl)) (fun _ _ _ _ _ => (pts_one (pt_val (pe_callG (ok_takes_none_of T) (hr.mono (by decide)) rfl (T.glo 44 rfl) (pa_cons (pv 8) (pa_cons (pv 7) (pa_cons (pv 2) (pa_cons (pv 3) pa_nil)))))))) (fun _ _ _ _ _ => (pv 8))) pa_nil))))))
    (pss_one (ps_ret (pv 4)))))
theorem pure_board_with_rot (T : Txt K mg) (h : sp_board_with_rot K vs H Q E) : t_board_with_rot K { nx := fun _ H' => Q .non H', rt := Q } (start NL_board_with_rot vs) H := by
  obtain ⟨aB, b, f, a, c, rfl, ⟨rows, hb1, hb2⟩, ok, k⟩ := h
  have hlen := hb2.length
  have l201 := ok.len
  refine q_asgL el_nil fun D H1 hD e1 h1 => ?_
  refine q_forEn (H0 := H) (ea_cons (ev_var rfl) ea_nil) hb1 (fun i σ' H' => ∃ (rs : List Addr) (u v w x : Option V), σ' = [some (.ref aB), some (.int (f : Int)), some (.int (a : Int)), some (.int (c : Int)), some (.ref D), u, v, w, x] ∧ Ex H H' ∧ H' D = some (.lst (rs.map V.ref)) ∧ Paired (fun r l => r ≠ D ∧ RowAt K H' r l) rs ((b.zipIdx.take i).map fun z => z.1.filter (keepF (f + 10 * z.2) a c)))
    (fun H2 e2 => ⟨[], none, none, none, none, rfl, e1.trans e2, e2 _ _ h1, .nil⟩) (fun i σ' H' ⟨_, _, _, _, _, _, e, _⟩ => e) ?_ ?_
  · rintro i y σ' H' J hi ⟨rs, u, v, w', x, rfl, e, h4, h5⟩ eJ
    obtain ⟨r, l, rfl, hl, hr⟩ := BoardAt.rows (a := aB) hb2 hi
    have hil : i < b.length := (List.getElem?_eq_some_iff.mp hl).1
    refine ⟨_, _, rfl, _, _, rfl, rfl, ?_⟩
    show tSeq _ _ _ [some (.ref aB), some (.int (f : Int)), some (.int (a : Int)), some (.int (c : Int)), some (.ref D), some (.int (i : Int)), some (.ref r), w', x] J
    refine q_asg (ev_int (ev_add (ev_var rfl) (ev_mul (ev_c (v := .int 10)) (ev_var rfl) (.inl (by decide)))) (show (f : Int) + 10 * (i : Int) = ((f + 10 * i : Nat) : Int) by omega)) fun H2 e2 => ?_
    have e' : Ex H H2 := (e.trans eJ).trans e2
    have hl2 := ok.row i l hl
    have hz := List.getElem?_zipIdx (l := b) (i := 0) (j := i)
    rw [hl, Option.map_some, Nat.zero_add] at hz
    refine s_appX (X := fun Hp v Hq => ∃ p, v = .ref p ∧ Hp p = none ∧ RowAt K Hq p (l.filter (keepF (f + 10 * i) a c))) (xs := rs.map V.ref) (e2 _ _ (eJ _ _ h4)) (ev_var rfl) (fun H3 e3 Q' q => ?_) (fun Ha Hb v Hc e ⟨p, h1, h2, h3⟩ => ⟨p, h1, fresh_back e h2, h3⟩) ?_ fun v H3 e3 hv => ?_
    · show tLc _ _ _ _ _ [some (.ref aB), some (.int (f : Int)), some (.int (a : Int)), some (.int (c : Int)), some (.ref D), some (.int (i : Int)), some (.ref r), some (.int ((f + 10 * i : Nat) : Int)), x] H3 Q'
      refine lc_keepR (keepF (f + 10 * i) a c) (ev_var rfl) (hr.mono (e'.trans e3)) (by omega) (fun _ => rfl) (fun _ => rfl) (fun t x' H4 e4 hx ht => ?_) fun p H4 hp e4 h6 hp2 => q _ _ e4 ⟨p, rfl, hp, h6⟩
      exact et_B (ev_call (ea_cons (ev_var rfl) (ea_cons (ev_var rfl) (ea_cons (ev_var rfl) (ea_cons (ev_var rfl) ea_nil)))) fun H5 e5 Q' q _ => ⟨t, x', f + 10 * i, a, c, rfl, ex_t e5 ht, q⟩)
    · rw [List.length_map, h5.length, List.length_map, List.length_take, List.length_zipIdx]
      omega
    · obtain ⟨p, rfl, hp, h6⟩ := hv
      have pn : p ≠ D := fun z => by
        rw [z, e2 _ _ (eJ _ _ h4)] at hp
        cases hp
      refine ⟨rs ++ [p], _, _, _, _, rfl, Ex.mut (e'.trans e3) hD, ?_, ?_⟩
      · rw [map_snoc]
        exact upd_same
      · rw [get_take hz, List.map_append]
        have up : ∀ a o, a ≠ D → H3 a = some o → (upd H3 D (.lst (rs.map V.ref ++ [V.ref p]))) a = some o := fun a o hne h => by
          rw [upd_ne hne]
          exact h
        have hD3 := e3 _ _ (e2 _ _ (eJ _ _ h4))
        refine paired_snoc (Paired.mapP h5 fun r l z => ⟨z.1, (z.2.mono ((eJ.trans e2).trans e3)).but hD3 z.1 up⟩) ⟨pn, h6.but hD3 pn up⟩
  · rintro σ' H' ⟨rs, u, v, w', x, rfl, e, h4, h5⟩
    rw [List.length_map, hlen, show b.zipIdx.take b.length = b.zipIdx by rw [← List.length_zipIdx (l := b) (i := 0), List.take_length]] at h5
    exact s_ret (ev_var rfl) fun H2 e2 => k D H2 hD (e.trans e2) ⟨rs, sq_of (e2 _ _ h4), Paired.mapP h5 fun r l z => z.2.mono e2⟩
theorem ok_board_with_rot (T : Txt K mg) : Good P w K mg base ("board_with_rot", none) 2 ["board", "foot", "a", "b"] (sp_board_with_rot K) :=
  good_mk (d := d_board_with_rot) T 63 rfl rfl rfl sc_board_with_rot (fun vs H Q E h => len_board_with_rot h) (fun _ _ _ _ _ _ us hl => match us, hl with | [_, _, _, _], _ => rfl) (fun cdv A outer s H E hr => w_board_with_rot T cdv A outer s H E hr) (fun vs H Q E h => pure_board_with_rot T h)
end
end Sb
end
section
set_option maxHeartbeats 4000000
namespace Sb
open PySem PySem.Spec PySem.Calls PyProof.Rows L2 Evl
open TimBuck (Stem Product Piece diameterIn Log)
abbrev nI (ms : List Nat) : List Int := ms.map fun (n : Nat) => (n : Int)
theorem nI_map (ms : List Nat) : (nI ms).map V.int = ms.map fun (n : Nat) => V.int (n : Int) := by
  rw [List.map_map]
  rfl
theorem nI_set (ms : List Nat) (n v : Nat) : ((nI ms).map V.int).set n (V.int (v : Int)) = (nI (ms.set n v)).map V.int := by rw [nI_map, nI_map, List.map_set]
theorem set_mid (n v : Nat) (w : List Nat) : (List.replicate (n + 1) 0 ++ w).set n v = List.replicate n 0 ++ v :: w := by
  induction n with
  | zero => rfl
  | succ n ih =>
    rw [List.replicate_succ, List.cons_append, List.set_cons_succ, ih, List.replicate_succ (n := n), List.cons_append]
/-- what a way brings that begins with the step there -/
def brS (ms : List Nat) (i : Nat) (x : TimBuck.Step) : Nat := worthS x + ms.getD (i + cellsS x) 0
section
variable {K : PySem.W.Frag} {σ : L2.St} {H : Hp}
/-- [e for step in steps], values -/
theorem el_mapRow {tl te : TE} {a : Addr} {l : List TimBuck.Step} {j : Nat} {vs : List Nat} (f : TimBuck.Step → V) (h : Ev tl σ H (.ref a)) (hx : RowAt K H a l) (hz : l.length < 100000) (hw : ∀ x, wipe ((wipe σ vs).set j (some x)) vs = wipe σ vs)
    (he : ∀ (t : Addr) (x : TimBuck.Step), x ∈ l → SqT K H t ((stepI x).map V.int) → Ev te ((wipe σ vs).set j (some (.ref t))) H (f x)) : EvL (tLc (iList K tl) (gName j) tYes te vs) σ H (l.map f) := fun H0 e Q q => by
  obtain ⟨zs, h1, rfl, h3⟩ := hx.zs
  rw [List.length_map] at hz
  exact h H0 e _ fun H1 e1 => ⟨a, rfl, ⟨_, ex_l (e.trans e1) h1⟩, fun Dl hD =>
    lc_list (xs := zs.map fun z => V.ref z.1) (fun i H' => Ex H1 H' ∧ H' Dl = some (.lst (((zs.take i).map fun z => z.2).map f))) ⟨Ex.new hD, upd_same⟩ (fun i H' _ p => ex_l ((e.trans e1).trans p.1) h1)
      (fun i y H' hi p => ⟨hw y, by
        obtain ⟨⟨t, x⟩, hz', rfl⟩ := map_at hi
        show te ((wipe σ vs).set j (some (.ref t))) H' fun y H4 => _
        refine he t x (List.mem_map.mpr ⟨_, List.mem_of_getElem? hz', rfl⟩) (h3 _ (List.mem_of_getElem? hz')) H' ((e.trans e1).trans p.1) _ fun H4 e4 => ⟨_, e4 _ _ p.2, sz_lt (by rw [List.length_map, List.length_map, List.length_take]; omega), Ex.mut (p.1.trans e4) hD, ?_⟩
        rw [get_take hz', List.map_append, List.map_append]
        exact upd_same⟩)
      (fun H' p => q Dl H' (fresh_back e1 hD) (e1.trans p.1) (by rw [p.2, List.length_map, List.take_length]))⟩
theorem ev_max {tl : TE} {ns : List Int} {m : Int} (h : EvL tl σ H (ns.map V.int)) (hne : 0 < ns.length) (hm : ∀ m', m' ∈ ns → (∀ y, y ∈ ns → y ≤ m') → m' = m) : Ev (tCB (rMax K) (tCons tl tNil)) σ H (.int m) := fun H1 e Q q =>
  h H1 e _ fun p H2 _ e2 hp => ⟨p, ns, rfl, sq_of hp, hne, fun m' h1 h2 => by
    rw [hm m' h1 h2]
    exact q H2 e2⟩
end
/-! ## the greatest of a list -/
theorem fold_max {α : Type} (f : α → Nat) : ∀ (l : List α) (a : Nat), a ≤ l.foldl (fun m x => max m (f x)) a ∧ (∀ x ∈ l, f x ≤ l.foldl (fun m x => max m (f x)) a) ∧ (l.foldl (fun m x => max m (f x)) a = a ∨ ∃ x ∈ l, l.foldl (fun m x => max m (f x)) a = f x)
  | [], a => ⟨Nat.le_refl a, fun x h => absurd h List.not_mem_nil, .inl rfl⟩
  | y :: l, a => by
    obtain ⟨h1, h2, h3⟩ := fold_max f l (max a (f y))
    rw [List.foldl_cons]
    refine ⟨by omega, fun x hx => ?_, ?_⟩
    · rcases List.mem_cons.mp hx with rfl | hx
      · omega
      · exact h2 x hx
    · rcases h3 with h3 | ⟨x, hx, h3⟩
      · by_cases c : a ≤ f y
        · exact .inr ⟨y, List.mem_cons_self .., by rw [h3]; omega⟩
        · exact .inl (by rw [h3]; omega)
      · exact .inr ⟨x, List.mem_cons_of_mem _ hx, h3⟩
theorem max_is {α : Type} (f : α → Nat) (l : List α) (hl : l ≠ []) (m : Int) (hm : m ∈ l.map fun x => ((f x : Nat) : Int)) (hx : ∀ y, (y ∈ l.map fun x => ((f x : Nat) : Int)) → y ≤ m) : m = ((l.foldl (fun m x => max m (f x)) 0 : Nat) : Int) := by
  obtain ⟨h1, h2, h3⟩ := fold_max f l 0
  obtain ⟨x, hx1, rfl⟩ := List.mem_map.mp hm
  have h4 := h2 x hx1
  rcases h3 with h3 | ⟨y, hy, h3⟩
  · rw [h3] at h4 ⊢
    omega
  · have := hx _ (List.mem_map.mpr ⟨y, hy, rfl⟩)
    rw [h3] at h4 ⊢
    omega
/-- what a step brings, by the row from the next height on -/
def brR (r : List Nat) (x : TimBuck.Step) : Nat := worthS x + r.getD (cellsS x - 1) 0
/-- the row of worths of a board -/
def rowB : List (List TimBuck.Step) → List Nat
  | [] => []
  | [_] => [0]
  | l :: m :: r => (l.foldl (fun a x => max a (brR (rowB (m :: r)) x)) 0) :: rowB (m :: r)
theorem rowB_len : ∀ b : List (List TimBuck.Step), (rowB b).length = b.length
  | [] => rfl
  | [_] => rfl
  | l :: m :: r => by
    show (rowB (m :: r)).length + 1 = _
    rw [rowB_len (m :: r)]
    rfl
theorem rowB_cons {b : List (List TimBuck.Step)} {i : Nat} {l : List TimBuck.Step} (h : b[i]? = some l) (hi : i + 1 < b.length) : rowB (b.drop i) = (l.foldl (fun a x => max a (brR (rowB (b.drop (i + 1))) x)) 0) :: rowB (b.drop (i + 1)) := by
  have e1 : b.drop i = l :: b.drop (i + 1) := by
    rw [List.drop_eq_getElem_cons (by omega)]
    congr 1
    rw [List.getElem?_eq_getElem (by omega)] at h
    exact Option.some.inj h
  have e2 : ∃ m r, b.drop (i + 1) = m :: r := ⟨_, _, List.drop_eq_getElem_cons hi⟩
  obtain ⟨m, r, e2⟩ := e2
  rw [e1, e2]
  rfl
theorem brS_of {n : Nat} {w : List Nat} {x : TimBuck.Step} (hx : 1 ≤ cellsS x) : brS (List.replicate (n + 1) 0 ++ w) n x = brR w x := by
  unfold brS brR
  congr 1
  rw [List.getD_eq_getElem?_getD, List.getD_eq_getElem?_getD, List.getElem?_append_right (by rw [List.length_replicate]; omega), List.length_replicate]
  congr 2
  omega
section
variable {P : Program} {w : World} {K : PySem.W.Frag} {mg : Str → Option Value} {base : Heap} {vs : List V} {H : Hp} {Q : VK} {E : XK}
def sp_way_worth (K : PySem.W.Frag) : Sp := fun vs H Q _ => ∃ (t : Addr) (x : TimBuck.Step) (aM : Addr) (ms : List Nat) (i : Nat), vs = [.ref t, .ref aM, .int (i : Int)] ∧ SqT K H t ((stepI x).map V.int) ∧ SqL K H aM ((nI ms).map V.int) ∧ i + cellsS x < ms.length ∧ ∀ H', Ex H H' → Q (.int ((brS ms i x : Nat) : Int)) H'
theorem len_way_worth (h : sp_way_worth K vs H Q E) : vs.length = 3 := by
  obtain ⟨a, b, c, d, e, rfl, _⟩ := h
  rfl
abbrev NL_way_worth : List Str := ["step", "most", "at", "cells", "k", "paid", "worth"]
theorem sc_way_worth : FnScope NL_way_worth ["step", "most", "at"] (defScope s_way_worth) := ⟨rfl, rfl, rfl, by decide +kernel, rfl, by decide +kernel, by decide +kernel⟩
def t_way_worth (K : PySem.W.Frag) : TS := (tSeq (tAsg (tVar 0) (gTup K 4 (gCons (gName 3) (gCons (gName 4) (gCons (gName 5) (gCons (gName 6) gNil))))))
    (tRet (tOp (rI0 fun i j => .int (i + j)) (tVar 6) (tOp (rIxL K) (tVar 1) (tOp (rI0 fun i j => .int (i + j)) (tVar 2) (tVar 3))))))
theorem w_way_worth (T : Txt K mg) (cdv : Value) (A : Around) (outer : List Env) (s : Shared) (H : Hp) (E : XK) (hr : Room 0 (A.deeper (envOfC "way_worth" (defScope s_way_worth) s.heap.objs.size (He.fAd K ("way_worth", none)) cdv))) :
    PSs (cxOf CX0 P w K mg base NL_way_worth "way_worth" (defScope s_way_worth) (He.fAd K ("way_worth", none)) cdv A outer s H E).nox (defBody s_way_worth) (t_way_worth K) := by
  exact (pss_cons (ps_asg (pv 0) (pg_tup rfl (pgs_cons (pg_name (i := 3) sc_way_worth.nd rfl (.inl rfl)) (pgs_cons (pg_name (i := 4) sc_way_worth.nd rfl (.inl rfl)) (pgs_cons (pg_name (i := 5) sc_way_worth.nd rfl (.inl rfl)) (pgs_cons (pg_name (i := 6) sc_way_worth.nd rfl (.inl rfl)) pgs_nil))))))
    (pss_one (ps_ret (pe_op op_add (pv 6) (pe_ix ix_list (pv 1) (pe_op op_add (pv 2) (pv 3)) (fun _ _ => rfl))))))
theorem pure_way_worth (T : Txt K mg) (h : sp_way_worth K vs H Q E) : t_way_worth K { nx := fun _ H' => Q .non H', rt := Q } (start NL_way_worth vs) H := by
  obtain ⟨t, x, aM, ms, i, rfl, ht, hM, hi, k⟩ := h
  rw [stepI_eq] at ht
  have hg : (nI ms)[i + cellsS x]? = some ((ms.getD (i + cellsS x) 0 : Nat) : Int) := by
    rw [List.getElem?_map, List.getElem?_eq_getElem hi, List.getD_eq_getElem?_getD, List.getElem?_eq_getElem hi]
    rfl
  refine q_unT (σ' := [some (.ref t), some (.ref aM), some (.int (i : Int)), some (.int (cellsS x : Int)), some (.int (kS x)), some (.int (longS x : Int)), some (.int (worthS x : Int))]) (ev_var rfl) ht rfl (fun H' Q q => ⟨_, _, rfl, _, _, rfl, _, _, rfl, _, _, rfl, rfl, q⟩) fun H1 e1 => ?_
  refine s_ret (ev_int (ev_add (ev_var rfl) (ev_ixL (ev_var rfl) (ev_add (ev_var rfl) (ev_var rfl)) (ex_l e1 hM) (at_int (n := i + cellsS x) (by omega) hg))) ?_) fun H2 e2 => k H2 (e1.trans e2)
  unfold brS
  rw [Int.natCast_add]
theorem ok_way_worth (T : Txt K mg) : Good P w K mg base ("way_worth", none) 1 ["step", "most", "at"] (sp_way_worth K) :=
  good_mk (d := d_way_worth) T 64 rfl rfl rfl sc_way_worth (fun vs H Q E h => len_way_worth h) (fun _ _ _ _ _ _ us hl => match us, hl with | [_, _, _], _ => rfl) (fun cdv A outer s H E hr => w_way_worth T cdv A outer s H E hr) (fun vs H Q E h => pure_way_worth T h)
theorem ev_worthW {σ : L2.St} {ta tb tc : TE} {E' : XK} {t aM : Addr} {x : TimBuck.Step} {ms : List Nat} {i : Nat} (h1 : Ev ta σ H (.ref t)) (h2 : Ev tb σ H (.ref aM)) (h3 : Ev tc σ H (.int (i : Int))) (ht : SqT K H t ((stepI x).map V.int)) (hM : SqL K H aM ((nI ms).map V.int)) (hi : i + cellsS x < ms.length) :
    Ev (tCall (sp_way_worth K) [] E' (tCons ta (tCons tb (tCons tc tNil)))) σ H (.int ((brS ms i x : Nat) : Int)) := ev_call (ea_cons h1 (ea_cons h2 (ea_cons h3 ea_nil))) fun H1 e Q q _ => ⟨t, x, aM, ms, i, rfl, ex_t e ht, ex_l e hM, hi, q⟩
/-! ## the row of worths -/
def sp_most_worths (K : PySem.W.Frag) : Sp := fun vs H Q _ => ∃ (aB : Addr) (b : List (List TimBuck.Step)), vs = [.ref aB] ∧ BoardAt K H aB b ∧ BoardOk b ∧ RetL ((nI (rowB b)).map V.int) H Q
theorem len_most_worths (h : sp_most_worths K vs H Q E) : vs.length = 1 := by
  obtain ⟨a, b, rfl, _⟩ := h
  rfl
abbrev NL_most_worths : List Str := ["board", "most", "at", "step"]
theorem sc_most_worths : FnScope NL_most_worths ["board"] (defScope s_most_worths) := ⟨rfl, rfl, rfl, by decide +kernel, rfl, by decide +kernel, by decide +kernel⟩
def t_most_worths (K : PySem.W.Frag) : TS := (tSeq (tAsg (tOp rRep (tLst (tCons (tC (.int 0)) tNil)) (tCB (rLenS K) (tCons (tVar 0) tNil))) (gName 1))
    (tSeq (tFor (iRng3 (tCons (tOp (rI0 fun i j => .int (i - j)) (tCB (rLenS K) (tCons (tVar 0) tNil)) (tC (.int 2))) (tCons (tUn (rU fun i => .int (-i)) (tC (.int 1))) (tCons (tUn (rU fun i => .int (-i)) (tC (.int 1))) tNil)))) (gName 2) (tAsg (tCB (rMax K) (tCons (tLc (iList K (tOp (rIxL K) (tVar 0) (tVar 2))) (gName 3) tYes (tCall (sp_way_worth K) [] E0 (tCons (tVar 3) (tCons (tVar 1) (tCons (tVar 2) tNil)))) [3]) tNil)) (gSub (tVar 1) (tVar 2) rSetL)))
    (tRet (tVar 1))))
theorem w_most_worths (T : Txt K mg) (cdv : Value) (A : Around) (outer : List Env) (s : Shared) (H : Hp) (E : XK) (hr : Room 1 (A.deeper (envOfC "most_worths" (defScope s_most_worths) s.heap.objs.size (He.fAd K ("most_worths", none)) cdv))) :
    PSs (cxOf CX0 P w K mg base NL_most_worths "most_worths" (defScope s_most_worths) (He.fAd K ("most_worths", none)) cdv A outer s H E).nox (defBody s_most_worths) (t_most_worths K) := by
  exact (pss_cons (ps_set (i := 1) sc_most_worths.nd rfl (.inr rfl) (pe_op op_rep (pe_lst (pa_cons (by exact pe_int) pa_nil)) (pe_callB call_len_seq rfl (T.free 78 rfl) (by decide +kernel) (pa_cons (pv 0) pa_nil))))
    (pss_cons (ps_for PassesOwn.never rfl (pi_range3 rfl (T.free 79 rfl) (pa_cons (pe_op op_sub (pe_callB call_len_seq rfl (T.free 78 rfl) (by decide +kernel) (pa_cons (pv 0) pa_nil)) (by exact pe_int)) (pa_cons (pe_un un_neg (by exact pe_int)) (pa_cons (pe_un un_neg (by exact pe_int)) pa_nil)))) (pg_name (i := 2) sc_most_worths.nd rfl (.inr rfl)) (pss_one (ps_asg (pe_callB (cr_max rfl) rfl (T.free 80 rfl) (by decide +kernel) (pa_cons (pe_lc (own := [("step", 3)]) (g := gName 3) (tt := tYes) rfl sc_most_worths.nd (pi_list (pe_ix ix_list (pv 0) (pv 2) (fun _ _ => rfl))) (blkOk_by (own := [("step", 3)]) (N := NL_most_worths) (sc := (defScope s_most_worths)) (by decide +kernel)) (fun _ _ _ _ _ => pg_name (i := 3) sc_most_worths.nd rfl (.inl rfl)) (fun _ _ _ _ _ => pts_nil) (fun _ _ _ _ _ => (pe_callG (ok_way_worth T) (hr.mono (by decide)) rfl (T.glo 46 rfl) (pa_cons (pv 3) (pa_cons (pv 1) (pa_cons (pv 2) pa_nil)))))) pa_nil)) (pg_sub (pv 1) (pv 2) set_list))))
    (pss_one (ps_ret (pv 1)))))
theorem pure_most_worths (T : Txt K mg) (h : sp_most_worths K vs H Q E) : t_most_worths K { nx := fun _ H' => Q .non H', rt := Q } (start NL_most_worths vs) H := by
  obtain ⟨aB, b, rfl, hB, ok, k⟩ := h
  have l1 := ok.len
  have l2 := ok.pos
  refine q_asgL (el_rep (n := b.length) ev_c (hB.lenE (ev_var rfl)) (by omega)) fun M H1 hM e1 h1 => ?_
  refine q_forC (lo := (b.length : Int) - 2) (hi := -1) (c := -1) (n := b.length - 1) (ea_cons (ev_sub ((hB.mono e1).lenE (ev_var rfl)) ev_c) (ea_cons (ev_neg ev_c) (ea_cons (ev_neg ev_c) ea_nil))) ?_
    (fun i σ' H' => ∃ (u v : Option V), σ' = [some (.ref aB), some (.ref M), u, v] ∧ Ex H H' ∧ H' M = some (.lst ((nI (List.replicate (b.length - 1 - i) 0 ++ rowB (b.drop (b.length - 1 - i)))).map V.int))) ?_ ?_ ?_
  · have h := RgC.neg (i := (b.length : Int) - 2) (j := -1) (by omega) (by omega) (by decide) (by decide)
    rw [show ((b.length : Int) - 2 - -1).toNat = b.length - 1 by omega] at h
    exact h
  · intro H2 e2
    refine ⟨_, _, rfl, e1.trans e2, ?_⟩
    rw [e2 _ _ h1, Nat.sub_zero]
    have e : b.drop (b.length - 1) = [b[b.length - 1]] := by
      rw [List.drop_eq_getElem_cons (by omega), show b.length - 1 + 1 = b.length by omega, List.drop_length]
    rw [e, show rowB [b[b.length - 1]] = List.replicate 1 0 from rfl, List.replicate_append_replicate, show b.length - 1 + 1 = b.length by omega, nI_map, List.map_replicate]
    rfl
  · rintro i σ' H' hi ⟨u, v, rfl, e, h2⟩
    obtain ⟨n, hn⟩ : ∃ n, n = b.length - 2 - i := ⟨_, rfl⟩
    have en : b.length - 1 - i = n + 1 := by omega
    have en2 : b.length - 1 - (i + 1) = n := by omega
    have ei : (b.length : Int) - 2 + (i : Nat) * (-1) = ((n : Nat) : Int) := by omega
    rw [en] at h2
    rw [ei, en2]
    have hg : b[n]? = some b[n] := List.getElem?_eq_getElem (by omega)
    obtain ⟨r, hr, hix⟩ := (hB.mono e).ix (σ := [some (.ref aB), some (.ref M), some (.int (n : Int)), v]) (ta := tVar 0) (tb := tVar 2) hg
    have hml : (List.replicate (n + 1) 0 ++ rowB (b.drop (n + 1))).length = b.length := by
      rw [List.length_append, List.length_replicate, rowB_len, List.length_drop]
      omega
    have hrow := ok.row n _ hg
    have hne := ok.ne n _ hg (by omega)
    have hrl : EvL (tLc (iList K (tOp (rIxL K) (tVar 0) (tVar 2))) (gName 3) tYes (tCall (sp_way_worth K) [] E0 (tCons (tVar 3) (tCons (tVar 1) (tCons (tVar 2) tNil)))) [3]) [some (.ref aB), some (.ref M), some (.int (n : Int)), v] H' (b[n].map fun x => V.int ((brR (rowB (b.drop (n + 1))) x : Nat) : Int)) :=
      el_mapRow _ (hix (Ex.refl _) (ev_var rfl) (ev_var rfl)) hr (by omega) (fun _ => rfl) fun t x hx ht => by
        obtain ⟨f1, f2⟩ := ok.fit n _ hg x hx
        have z := ev_worthW (E' := E0) (σ := [some (.ref aB), some (.ref M), some (.int (n : Int)), some (.ref t)]) (ta := tVar 3) (tb := tVar 1) (tc := tVar 2) (ev_var rfl) (ev_var rfl) (ev_var rfl) ht (sq_of h2) (by rw [hml]; exact f2)
        rw [brS_of f1] at z
        exact z
    have e3 : (b[n].map fun x => V.int ((brR (rowB (b.drop (n + 1))) x : Nat) : Int)) = (b[n].map fun x => ((brR (rowB (b.drop (n + 1))) x : Nat) : Int)).map V.int := by
      rw [List.map_map]
      rfl
    rw [e3] at hrl
    refine s_setL (j := n) h2 (ev_max hrl (by rw [List.length_map]; exact List.length_pos_iff.mpr hne) (max_is (brR (rowB (b.drop (n + 1)))) b[n] hne)) (ev_var rfl) (ev_var rfl) (by rw [List.length_map, List.length_map, hml]; omega) fun H2 e2 => ⟨_, _, rfl, Ex.mut (e.trans e2) hM, ?_⟩
    rw [upd_same]
    congr 2
    rw [rowB_cons hg (by omega), nI_set, set_mid]
  · rintro σ' H' ⟨u, v, rfl, e, h2⟩
    refine s_ret (ev_var rfl) fun H2 e2 => k M H2 hM (e.trans e2) ?_
    rw [e2 _ _ h2, Nat.sub_self]
    rfl
theorem ok_most_worths (T : Txt K mg) : Good P w K mg base ("most_worths", none) 2 ["board"] (sp_most_worths K) :=
  good_mk (d := d_most_worths) T 65 rfl rfl rfl sc_most_worths (fun vs H Q E h => len_most_worths h) (fun _ _ _ _ _ _ us hl => match us, hl with | [_], _ => rfl) (fun cdv A outer s H E hr => w_most_worths T cdv A outer s H E hr) (fun vs H Q E h => pure_most_worths T h)
end
end Sb
end
section
set_option maxHeartbeats 4000000
namespace Sb
open PySem PySem.Spec PySem.Calls PyProof.Rows L2 Evl
open TimBuck (Stem Product Piece diameterIn Log)
/-- the first of the greatest -/
def pick (f : TimBuck.Step → Nat) (m x : TimBuck.Step) : TimBuck.Step := if f m < f x then x else m
def bestS (f : TimBuck.Step → Nat) (l : List TimBuck.Step) : TimBuck.Step := l.foldl (pick f) (l.headD .waste)
theorem fold_pick_mem (f : TimBuck.Step → Nat) : ∀ (l : List TimBuck.Step) (a : TimBuck.Step), l.foldl (pick f) a = a ∨ l.foldl (pick f) a ∈ l
  | [], a => .inl rfl
  | x :: l, a => by
    rw [List.foldl_cons]
    rcases fold_pick_mem f l (pick f a x) with h | h
    · rw [h]
      unfold pick
      split
      · exact .inr (List.mem_cons_self ..)
      · exact .inl rfl
    · exact .inr (List.mem_cons_of_mem _ h)
theorem bestS_mem (f : TimBuck.Step → Nat) {l : List TimBuck.Step} (h : l ≠ []) : bestS f l ∈ l := by
  cases l with
  | nil => exact absurd rfl h
  | cons a r =>
    rcases fold_pick_mem f (a :: r) a with z | z
    · show (a :: r).foldl (pick f) a ∈ _
      rw [z]
      exact List.mem_cons_self ..
    · exact z
/-- the best way from a place of the board -/
inductive WayIs (b : List (List TimBuck.Step)) (ms : List Nat) : Nat → List TimBuck.Step → Prop
  | stop {i : Nat} : b.length ≤ i + 1 → WayIs b ms i []
  | go {i : Nat} {l : List TimBuck.Step} {w : List TimBuck.Step} : i + 1 < b.length → b[i]? = some l → WayIs b ms (i + cellsS (bestS (brS ms i) l)) w → WayIs b ms i (bestS (brS ms i) l :: w)
theorem WayIs.len {b : List (List TimBuck.Step)} {ms : List Nat} (ok : BoardOk b) {i : Nat} {w : List TimBuck.Step} (h : WayIs b ms i w) : i < b.length → w.length + i < b.length := by
  induction h with
  | stop _ =>
    intro h
    rw [List.length_nil]
    omega
  | @go i l w h1 h2 h3 ih =>
    intro h
    have f := ok.fit i l h2 _ (bestS_mem (brS ms i) (ok.ne i l h2 h1))
    have := ih f.2
    rw [List.length_cons]
    omega
section
variable {P : Program} {w : World} {K : PySem.W.Frag} {mg : Str → Option Value} {base : Heap} {vs : List V} {H : Hp} {Q : VK} {E : XK}
def isS (K : PySem.W.Frag) (x : TimBuck.Step) : Hp → V → Hp → Prop := fun _ v H' => ∃ t : Addr, v = .ref t ∧ SqT K H' t ((stepI x).map V.int)
def sp_best_step (K : PySem.W.Frag) : Sp := fun vs H Q _ => ∃ (aS : Addr) (l : List TimBuck.Step) (aM : Addr) (ms : List Nat) (i : Nat), vs = [.ref aS, .ref aM, .int (i : Int)] ∧ RowAt K H aS l ∧ l ≠ [] ∧ SqL K H aM ((nI ms).map V.int) ∧ (∀ x ∈ l, i + cellsS x < ms.length) ∧ ∀ t H', Ex H H' → SqT K H' t ((stepI (bestS (brS ms i) l)).map V.int) → Q (.ref t) H'
theorem len_best_step (h : sp_best_step K vs H Q E) : vs.length = 3 := by
  obtain ⟨a, b, c, d, e, rfl, _⟩ := h
  rfl
abbrev NL_best_step : List Str := ["steps", "most", "at", "found", "step"]
theorem sc_best_step : FnScope NL_best_step ["steps", "most", "at"] (defScope s_best_step) := ⟨rfl, rfl, rfl, by decide +kernel, rfl, by decide +kernel, by decide +kernel⟩
def t_best_step (K : PySem.W.Frag) : TS := (tSeq (tAsg (tOp (rIxL K) (tVar 0) (tC (.int 0))) (gName 3))
    (tSeq (tFor (iList K (tVar 0)) (gName 4) (tIfS (tTest (tOp (rI0 fun i j => .bl (decide (j < i))) (tCall (sp_way_worth K) [] E0 (tCons (tVar 4) (tCons (tVar 1) (tCons (tVar 2) tNil)))) (tCall (sp_way_worth K) [] E0 (tCons (tVar 3) (tCons (tVar 1) (tCons (tVar 2) tNil)))))) (tAsg (tVar 4) (gName 3)) tNext))
    (tRet (tVar 3))))
theorem w_best_step (T : Txt K mg) (cdv : Value) (A : Around) (outer : List Env) (s : Shared) (H : Hp) (E : XK) (hr : Room 1 (A.deeper (envOfC "best_step" (defScope s_best_step) s.heap.objs.size (He.fAd K ("best_step", none)) cdv))) :
    PSs (cxOf CX0 P w K mg base NL_best_step "best_step" (defScope s_best_step) (He.fAd K ("best_step", none)) cdv A outer s H E).nox (defBody s_best_step) (t_best_step K) := by
  exact (pss_cons (ps_set (i := 3) sc_best_step.nd rfl (.inl rfl) (pe_ix ix_list (pv 0) (by exact pe_int) (fun _ _ => rfl)))
    (pss_cons (ps_for PassesOwn.never rfl (pi_list (pv 0)) (pg_name (i := 4) sc_best_step.nd rfl (.inl rfl)) (pss_one (ps_if (pt_cmpR op_gt (pe_callG (ok_way_worth T) (hr.mono (by decide)) rfl (T.glo 46 rfl) (pa_cons (pv 4) (pa_cons (pv 1) (pa_cons (pv 2) pa_nil)))) (pe_callG (ok_way_worth T) (hr.mono (by decide)) rfl (T.glo 46 rfl) (pa_cons (pv 3) (pa_cons (pv 1) (pa_cons (pv 2) pa_nil)))) (nomark _)) (pss_one (ps_set (i := 3) sc_best_step.nd rfl (.inl rfl) (pv 4))) pss_nil)))
    (pss_one (ps_ret (pv 3)))))
theorem pure_best_step (T : Txt K mg) (h : sp_best_step K vs H Q E) : t_best_step K { nx := fun _ H' => Q .non H', rt := Q } (start NL_best_step vs) H := by
  obtain ⟨aS, l, aM, ms, i, rfl, hr, hne, hM, hfit, k⟩ := h
  obtain ⟨zs, h1, rfl, h3⟩ := hr.zs
  cases zs with
  | nil => exact absurd rfl hne
  | cons z0 zr =>
    refine q_asg (ev_ixL (ev_var rfl) ev_c h1 (at_of (j := 0) rfl rfl)) fun H1 e1 => ?_
    have ht : ∀ z, z ∈ z0 :: zr → i + cellsS z.2 < ms.length := fun z hz => hfit z.2 (List.mem_map.mpr ⟨z, hz, rfl⟩)
    refine q_forLn (K := K) (ev_var rfl) (ex_l e1 h1) (fun j σ' H' => ∃ (z : Addr × TimBuck.Step) (u : Option V), σ' = [some (.ref aS), some (.ref aM), some (.int (i : Int)), some (.ref z.1), u] ∧ Ex H H' ∧ z ∈ z0 :: zr ∧ z.2 = (((z0 :: zr).take j).map fun z => z.2).foldl (pick (brS ms i)) z0.2)
      (fun H2 e2 => ⟨z0, none, rfl, e1.trans e2, List.mem_cons_self .., rfl⟩) (fun j σ' H' _ ⟨_, _, _, e, _⟩ => ex_l e h1) ?_ ?_
    · rintro j y σ' H' hy ⟨z, u, rfl, e, hz, hf⟩
      obtain ⟨x, hx, rfl⟩ := map_at hy
      have hxm := List.mem_of_getElem? hx
      show tIfS _ _ _ _ [some (.ref aS), some (.ref aM), some (.int (i : Int)), some (.ref z.1), some (.ref x.1)] H'
      have hnext : ∀ z', z' = pick (brS ms i) z.2 x.2 → z' = (((z0 :: zr).take (j + 1)).map fun z => z.2).foldl (pick (brS ms i)) z0.2 := fun z' hz' => by
        rw [get_take hx, List.map_append, List.foldl_append, ← hf, hz']
        rfl
      refine s_when (et_test (ev_gt (ev_worthW (ev_var rfl) (ev_var rfl) (ev_var rfl) (ex_t e (h3 x hxm)) (ex_l e hM) (ht x hxm)) (ev_worthW (ev_var rfl) (ev_var rfl) (ev_var rfl) (ex_t e (h3 z hz)) (ex_l e hM) (ht z hz)))) (fun hb H2 e2 => s_asg (ev_var rfl) fun H3 e3 => ⟨x, _, rfl, (e.trans e2).trans e3, hxm, hnext _ ?_⟩) (fun hb H2 e2 => ⟨z, _, rfl, e.trans e2, hz, hnext _ ?_⟩)
      · have := of_decide_eq_true hb
        unfold pick
        rw [if_pos (by omega)]
      · have := of_decide_eq_false hb
        unfold pick
        rw [if_neg (by omega)]
    · rintro σ' H' ⟨z, u, rfl, e, hz, hf⟩
      rw [List.length_map, List.take_length] at hf
      refine s_ret (ev_var rfl) fun H2 e2 => k z.1 H2 (e.trans e2) ?_
      have : bestS (brS ms i) ((z0 :: zr).map fun z => z.2) = z.2 := hf.symm
      rw [this]
      exact ex_t (e.trans e2) (h3 z hz)
theorem ok_best_step (T : Txt K mg) : Good P w K mg base ("best_step", none) 2 ["steps", "most", "at"] (sp_best_step K) :=
  good_mk (d := d_best_step) T 66 rfl rfl rfl sc_best_step (fun vs H Q E h => len_best_step h) (fun _ _ _ _ _ _ us hl => match us, hl with | [_, _, _], _ => rfl) (fun cdv A outer s H E hr => w_best_step T cdv A outer s H E hr) (fun vs H Q E h => pure_best_step T h)
theorem ex_best {σ : L2.St} {ta tb tc : TE} {E' : XK} {aS aM : Addr} {l : List TimBuck.Step} {ms : List Nat} {i : Nat} (h1 : Ev ta σ H (.ref aS)) (h2 : Ev tb σ H (.ref aM)) (h3 : Ev tc σ H (.int (i : Int))) (hr : RowAt K H aS l) (hne : l ≠ []) (hM : SqL K H aM ((nI ms).map V.int)) (hi : ∀ x ∈ l, i + cellsS x < ms.length) :
    EvX (tCall (sp_best_step K) [] E' (tCons ta (tCons tb (tCons tc tNil)))) σ H (isS K (bestS (brS ms i) l)) := ex_call (ea_cons h1 (ea_cons h2 (ea_cons h3 ea_nil))) (fun H1 e Q q => ⟨aS, l, aM, ms, i, rfl, hr.mono e, hne, ex_l e hM, hi, fun t H' e' h => q _ _ e' ⟨t, rfl, h⟩⟩) (fun _ _ _ _ _ h => h)
def isWay (K : PySem.W.Frag) (way : List TimBuck.Step → Prop) : Hp → V → Hp → Prop := fun H v H' => ∃ (p : Addr) (l : List TimBuck.Step) (ts : List Addr), v = .ref p ∧ H p = none ∧ way l ∧ l.length ≤ 201 ∧ H' p = some (.lst (ts.map V.ref)) ∧ Tups K H' ts (l.map stepI)
theorem isWay_mono {way : List TimBuck.Step → Prop} : ∀ H1 H2 v H3, Ex H1 H2 → isWay K way H2 v H3 → isWay K way H1 v H3 := fun H1 H2 v H3 e ⟨p, l, ts, h1, h2, h3⟩ => ⟨p, l, ts, h1, fresh_back e h2, h3⟩
def sp_best_way (K : PySem.W.Frag) : Sp := fun vs H Q _ => ∃ (aB : Addr) (b : List (List TimBuck.Step)) (aM : Addr) (ms : List Nat) (i : Nat), vs = [.ref aB, .ref aM, .int (i : Int)] ∧ BoardAt K H aB b ∧ BoardOk b ∧ SqL K H aM ((nI ms).map V.int) ∧ ms.length = b.length ∧ i < b.length ∧ ∀ v H', Ex H H' → isWay K (WayIs b ms i) H v H' → Q v H'
theorem len_best_way (h : sp_best_way K vs H Q E) : vs.length = 3 := by
  obtain ⟨a, b, c, d, e, rfl, _⟩ := h
  rfl
abbrev NL_best_way : List Str := ["board", "most", "begin", "way", "at", "step"]
theorem sc_best_way : FnScope NL_best_way ["board", "most", "begin"] (defScope s_best_way) := ⟨rfl, rfl, rfl, by decide +kernel, rfl, by decide +kernel, by decide +kernel⟩
def t_best_way (K : PySem.W.Frag) : TS := (tSeq (tAsg (tLst tNil) (gName 3))
    (tSeq (tAsg (tVar 2) (gName 4))
    (tSeq (tWhile (tTest (tOp (rI0 fun i j => .bl (decide (i < j))) (tVar 4) (tOp (rI0 fun i j => .int (i - j)) (tCB (rLenS K) (tCons (tVar 0) tNil)) (tC (.int 1))))) (tSeq (tAsg (tCall (sp_best_step K) [] E0 (tCons (tOp (rIxL K) (tVar 0) (tVar 4)) (tCons (tVar 1) (tCons (tVar 4) tNil)))) (gName 5))
    (tSeq (tDrop (tBM K "list" rAppend (tVar 3) (tCons (tVar 5) tNil)))
    (tAsg (tOp (rI0 fun i j => .int (i + j)) (tVar 4) (tOp (rIxT K) (tVar 5) (tC (.int 0)))) (gName 4)))))
    (tRet (tVar 3)))))
theorem w_best_way (T : Txt K mg) (cdv : Value) (A : Around) (outer : List Env) (s : Shared) (H : Hp) (E : XK) (hr : Room 2 (A.deeper (envOfC "best_way" (defScope s_best_way) s.heap.objs.size (He.fAd K ("best_way", none)) cdv))) :
    PSs (cxOf CX0 P w K mg base NL_best_way "best_way" (defScope s_best_way) (He.fAd K ("best_way", none)) cdv A outer s H E).nox (defBody s_best_way) (t_best_way K) := by
  exact (pss_cons (ps_set (i := 3) sc_best_way.nd rfl (.inl rfl) (pe_lst pa_nil))
    (pss_cons (ps_set (i := 4) sc_best_way.nd rfl (.inl rfl) (pv 2))
    (pss_cons (ps_while PassesOwn.never (pt_cmpR op_lt (pv 4) (pe_op op_sub (pe_callB call_len_seq rfl (T.free 78 rfl) (by decide +kernel) (pa_cons (pv 0) pa_nil)) (by exact pe_int)) (nomark _)) (pss_cons (ps_set (i := 5) sc_best_way.nd rfl (.inl rfl) (pe_callG (ok_best_step T) (hr.mono (by decide)) rfl (T.glo 48 rfl) (pa_cons (pe_ix ix_list (pv 0) (pv 4) (fun _ _ => rfl)) (pa_cons (pv 1) (pa_cons (pv 4) pa_nil)))))
    (pss_cons (ps_expr (pe_bm PySem.F.plainAttrs_list PySem.F.slot_list_append PySem.F.type_list_append mt_append (pv 3) (pa_cons (pv 5) pa_nil)))
    (pss_one (ps_set (i := 4) sc_best_way.nd rfl (.inl rfl) (pe_op op_add (pv 4) (pe_ix ix_tup (pv 5) (by exact pe_int) (fun _ _ => rfl))))))))
    (pss_one (ps_ret (pv 3))))))
theorem pure_best_way (T : Txt K mg) (h : sp_best_way K vs H Q E) : t_best_way K { nx := fun _ H' => Q .non H', rt := Q } (start NL_best_way vs) H := by
  obtain ⟨aB, b, aM, ms, i0, rfl, hB, ok, hM, hms, hi0, k⟩ := h
  have l201 := ok.len
  refine q_asgL el_nil fun D H1 hD e1 h1 => ?_
  refine q_asg (ev_var rfl) fun H2 e2 => ?_
  refine q_while (fun m σ' H' => ∃ (ts : List Addr) (acc : List TimBuck.Step) (i : Nat) (u : Option V), σ' = [some (.ref aB), some (.ref aM), some (.int (i0 : Int)), some (.ref D), some (.int (i : Int)), u] ∧ Ex H H' ∧ H' D = some (.lst (ts.map V.ref)) ∧ Tups K H' ts (acc.map stepI) ∧ i < b.length ∧ i0 + acc.length ≤ i ∧ m = b.length - i ∧ ∀ w, WayIs b ms i w → WayIs b ms i0 (acc ++ w)) (b.length - i0) ?_ ?_
  · exact ⟨[], [], i0, none, rfl, e1.trans e2, e2 _ _ h1, .nil, hi0, Nat.le_refl _, rfl, fun w h => h⟩
  · rintro m σ' H' ⟨ts, acc, i, u, rfl, e, h4, h5, hi, hacc, rfl, hw⟩
    refine ⟨_, et_test (ev_lt (ev_var rfl) (ev_sub ((hB.mono e).lenE (ev_var rfl)) ev_c)), fun hb H3 e3 => ?_, fun hb H3 e3 => ?_⟩
    · have c : i + 1 < b.length := by
        have := of_decide_eq_true hb
        omega
      have hg : b[i]? = some b[i] := List.getElem?_eq_getElem hi
      have hne := ok.ne i _ hg c
      have hfit := ok.fit i _ hg
      have hbm := bestS_mem (brS ms i) hne
      obtain ⟨f1, f2⟩ := hfit _ hbm
      obtain ⟨r, hr, hix⟩ := ((hB.mono e).mono e3).ix (σ := [some (.ref aB), some (.ref aM), some (.int (i0 : Int)), some (.ref D), some (.int (i : Int)), u]) (ta := tVar 0) (tb := tVar 4) hg
      refine ⟨fun σ2 J => ∃ m', m' < b.length - i ∧ ∃ (ts : List Addr) (acc : List TimBuck.Step) (i : Nat) (u : Option V), σ2 = [some (.ref aB), some (.ref aM), some (.int (i0 : Int)), some (.ref D), some (.int (i : Int)), u] ∧ Ex H J ∧ J D = some (.lst (ts.map V.ref)) ∧ Tups K J ts (acc.map stepI) ∧ i < b.length ∧ i0 + acc.length ≤ i ∧ m' = b.length - i ∧ ∀ w, WayIs b ms i w → WayIs b ms i0 (acc ++ w), fun σ2 J h => h, ?_⟩
      refine q_asgX (ex_best (hix (Ex.refl _) (ev_var rfl) (ev_var rfl)) (ev_var rfl) (ev_var rfl) hr hne (ex_l (e.trans e3) hM) (fun x hx => by rw [hms]; exact (hfit x hx).2)) fun v H4 e4 hv => ?_
      obtain ⟨t, rfl, ht⟩ := hv
      refine q_app (xs := ts.map V.ref) (e4 _ _ (e3 _ _ h4)) (ev_var rfl) (ev_var rfl) ?_ fun H5 e5 => ?_
      · rw [List.length_map, h5.length, List.length_map]
        omega
      · have hD5 : H5 D = some (.lst (ts.map V.ref)) := e5 _ _ (e4 _ _ (e3 _ _ h4))
        have b5 : But D H5 (upd H5 D (.lst (ts.map V.ref ++ [V.ref t]))) := (But.refl _ H5).upd
        have ht5 := sqT_but hD5 (ex_t e5 ht) b5
        have ht5' := ht5
        rw [stepI_eq] at ht5'
        refine s_asg (ev_int (ev_add (ev_var rfl) (ev_ixT (ev_var rfl) ev_c ht5' rfl)) (show (i : Int) + (cellsS (bestS (brS ms i) b[i]) : Int) = ((i + cellsS (bestS (brS ms i) b[i]) : Nat) : Int) by omega)) fun H6 e6 => ?_
        refine ⟨b.length - (i + cellsS (bestS (brS ms i) b[i])), by omega, ts ++ [t], acc ++ [bestS (brS ms i) b[i]], _, _, rfl, (Ex.mut (((e.trans e3).trans e4).trans e5) hD).trans e6, ?_, ?_, f2, ?_, rfl, fun w hw' => ?_⟩
        · refine e6 _ _ ?_
          rw [map_snoc]
          exact upd_same
        · rw [List.map_append]
          exact tups_ex e6 (paired_snoc (b5.tups hD5 (tups_ex ((e3.trans e4).trans e5) h5)) ht5)
        · rw [List.length_append, List.length_singleton]
          omega
        · rw [List.append_assoc]
          exact hw _ (.go c hg hw')
    · have c : b.length ≤ i + 1 := by
        have := of_decide_eq_false hb
        omega
      have hway := hw [] (.stop c)
      rw [List.append_nil] at hway
      have hlen := hway.len ok hi0
      refine s_ret (ev_var rfl) fun H4 e4 => k _ H4 ((e.trans e3).trans e4) ⟨D, acc, ts, rfl, hD, hway, by omega, e4 _ _ (e3 _ _ h4), tups_ex (e3.trans e4) h5⟩
theorem ok_best_way (T : Txt K mg) : Good P w K mg base ("best_way", none) 3 ["board", "most", "begin"] (sp_best_way K) :=
  good_mk (d := d_best_way) T 67 rfl rfl rfl sc_best_way (fun vs H Q E h => len_best_way h) (fun _ _ _ _ _ _ us hl => match us, hl with | [_, _, _], _ => rfl) (fun cdv A outer s H E hr => w_best_way T cdv A outer s H E hr) (fun vs H Q E h => pure_best_way T h)
end
end Sb
end
section
set_option maxHeartbeats 4000000
namespace Sb
open PySem PySem.Spec PySem.Calls PyProof.Rows L2 Evl
open TimBuck (Stem Product Piece diameterIn Log)
theorem at_last {xs : List V} {n : Nat} {y : V} (hn : xs.length = n + 1) (h : xs[n]? = some y) : atI xs (-1) = some y := by
  unfold atI ixN
  rw [if_neg (by decide), if_pos (by omega)]
  show xs[((-1 : Int) + (xs.length : Nat)).toNat]? = _
  rw [show ((-1 : Int) + (xs.length : Nat)).toNat = n by omega]
  exact h
theorem ixN_last {n : Nat} : ixN (n + 1) (-1) = some n := by
  unfold ixN
  rw [if_neg (by decide), if_pos (by omega)]
  show some ((-1 : Int) + ((n + 1 : Nat) : Int)).toNat = _
  rw [show ((-1 : Int) + ((n + 1 : Nat) : Int)).toNat = n by omega]
theorem paired_set {α β : Type} {F : α → β → Prop} : ∀ {l : List α} {m : List β} {i : Nat} {x : α} {y : β}, Paired F l m → F x y → Paired F (l.set i x) (m.set i y)
  | _, _, _, _, _, .nil, _ => .nil
  | _, _, 0, _, _, .cons h t, z => .cons z t
  | _, _, i + 1, _, _, .cons h t, z => .cons h (paired_set t z)
section
variable {K : PySem.W.Frag} {σ : L2.St} {H : Hp} {D : Ends} {ta tb te : TE}
/-- xs[-1] = a new tuple -/
theorem s_setLastU {l : Addr} {xs ys : List V} {n : Nat} (hl : H l = some (.lst xs)) (hn : xs.length = n + 1) (h : EvU te σ H ys) (ho : Ev ta σ H (.ref l)) (hi : Ev tb σ H (.int (-1))) (k : ∀ p H1, H p = none → Ex H H1 → H1 p = some (.tup ys) → D.nx σ (upd H1 l (.lst (xs.set n (.ref p))))) :
    tAsg te (gSub ta tb rSetL) D σ H := h H (Ex.refl H) _ fun p H1 hp e1 h1 => ho H1 e1 _ fun H2 e2 => hi H2 (e1.trans e2) _ fun H3 e3 =>
  ⟨l, xs, -1, n, rfl, rfl, ((e1.trans e2).trans e3) l _ hl, by rw [hn]; exact ixN_last, k p H3 hp ((e1.trans e2).trans e3) (e3 _ _ (e2 _ _ h1))⟩
end
/-! ## pieces of a way -/
def encQ (q : Int × Int) : List Int := [q.1, q.2]
def addP (acc : List (Int × Int)) (x : TimBuck.Step) : List (Int × Int) := if kS x = -1 ∧ (acc.getLast?.map fun q => q.1) = some (-1) then acc.dropLast ++ [(-1, (acc.getLast?.map fun q => q.2).getD 0 + longS x)] else acc ++ [(kS x, (longS x : Int))]
def piecesL (way : List TimBuck.Step) : List (Int × Int) := way.foldl addP []
theorem piecesL_take {way : List TimBuck.Step} {i : Nat} {x : TimBuck.Step} (h : way[i]? = some x) : piecesL (way.take (i + 1)) = addP (piecesL (way.take i)) x := by
  unfold piecesL
  rw [get_take h, List.foldl_append]
  rfl
theorem set_last {α : Type} (l : List α) (n : Nat) (x : α) (h : l.length = n + 1) : l.set n x = l.dropLast ++ [x] := by
  obtain ⟨y, e⟩ : ∃ y, l = l.dropLast ++ [y] := ⟨l.getLast (by intro z; rw [z] at h; cases h), (List.dropLast_concat_getLast _).symm⟩
  rw [e, List.set_append_right _ _ (by rw [List.length_dropLast]; omega), List.dropLast_concat, List.length_dropLast, show n - (l.length - 1) = 0 by omega]
  rfl
section
variable {P : Program} {w : World} {K : PySem.W.Frag} {mg : Str → Option Value} {base : Heap} {vs : List V} {H : Hp} {Q : VK} {E : XK}
def sp_pieces_of (K : PySem.W.Frag) : Sp := fun vs H Q _ => ∃ (aW : Addr) (way : List TimBuck.Step), vs = [.ref aW] ∧ RowAt K H aW way ∧ way.length ≤ 1000 ∧ RetT K ((piecesL way).map encQ) H Q
theorem len_pieces_of (h : sp_pieces_of K vs H Q E) : vs.length = 1 := by
  obtain ⟨a, b, rfl, _⟩ := h
  rfl
abbrev NL_pieces_of : List Str := ["way", "pieces", "cells", "k", "paid", "worth"]
theorem sc_pieces_of : FnScope NL_pieces_of ["way"] (defScope s_pieces_of) := ⟨rfl, rfl, rfl, by decide +kernel, rfl, by decide +kernel, by decide +kernel⟩
def t_pieces_of (K : PySem.W.Frag) : TS := (tSeq (tAsg (tLst tNil) (gName 1))
    (tSeq (tFor (iList K (tVar 0)) (gTup K 4 (gCons (gName 2) (gCons (gName 3) (gCons (gName 4) (gCons (gName 5) gNil))))) (tIfS (tAnd (tTest (tOp rEq (tVar 3) (tUn (rU fun i => .int (-i)) (tC (.int 1))))) (tAnd (tTest (tOp (rI0 fun i j => .bl (decide (j < i))) (tCB (rLenS K) (tCons (tVar 1) tNil)) (tC (.int 0)))) (tTest (tOp rEq (tOp (rIxT K) (tOp (rIxL K) (tVar 1) (tUn (rU fun i => .int (-i)) (tC (.int 1)))) (tC (.int 0))) (tUn (rU fun i => .int (-i)) (tC (.int 1))))))) (tAsg (tTup (tCons (tUn (rU fun i => .int (-i)) (tC (.int 1))) (tCons (tOp (rI0 fun i j => .int (i + j)) (tOp (rIxT K) (tOp (rIxL K) (tVar 1) (tUn (rU fun i => .int (-i)) (tC (.int 1)))) (tC (.int 1))) (tVar 4)) tNil))) (gSub (tVar 1) (tUn (rU fun i => .int (-i)) (tC (.int 1))) rSetL)) (tDrop (tBM K "list" rAppend (tVar 1) (tCons (tTup (tCons (tVar 3) (tCons (tVar 4) tNil))) tNil)))))
    (tRet (tVar 1))))
theorem w_pieces_of (T : Txt K mg) (cdv : Value) (A : Around) (outer : List Env) (s : Shared) (H : Hp) (E : XK) (hr : Room 0 (A.deeper (envOfC "pieces_of" (defScope s_pieces_of) s.heap.objs.size (He.fAd K ("pieces_of", none)) cdv))) :
    PSs (cxOf CX0 P w K mg base NL_pieces_of "pieces_of" (defScope s_pieces_of) (He.fAd K ("pieces_of", none)) cdv A outer s H E).nox (defBody s_pieces_of) (t_pieces_of K) := by
  exact (pss_cons (ps_set (i := 1) sc_pieces_of.nd rfl (.inl rfl) (pe_lst pa_nil))
    (pss_cons (ps_for PassesOwn.never rfl (pi_list (pv 0)) (pg_tup rfl (pgs_cons (pg_name (i := 2) sc_pieces_of.nd rfl (.inl rfl)) (pgs_cons (pg_name (i := 3) sc_pieces_of.nd rfl (.inl rfl)) (pgs_cons (pg_name (i := 4) sc_pieces_of.nd rfl (.inl rfl)) (pgs_cons (pg_name (i := 5) sc_pieces_of.nd rfl (.inl rfl)) pgs_nil))))) (pss_one (ps_if (PW.pt (pw_and (pt_cmpR op_eq (pv 3) (pe_un un_neg (by exact pe_int)) (nomark _)) (pw_and (pt_cmpR op_gt (pe_callB call_len_seq rfl (T.free 78 rfl) (by decide +kernel) (pa_cons (pv 1) pa_nil)) (by exact pe_int) (nomark _)) (pw_and1 (pt_cmpR op_eq (pe_ix ix_tup (pe_ix ix_list (pv 1) (pe_un un_neg (by exact pe_int)) (fun _ _ => rfl)) (by exact pe_int) (fun _ _ => rfl)) (pe_un un_neg (by exact pe_int)) (nomark _)))))) (pss_one (ps_asg (pe_tup (pa_cons (pe_un un_neg (by exact pe_int)) (pa_cons (pe_op op_add (pe_ix ix_tup (pe_ix ix_list (pv 1) (pe_un un_neg (by exact pe_int)) (fun _ _ => rfl)) (by exact pe_int) (fun _ _ => rfl)) (pv 4)) pa_nil))) (pg_sub (pv 1) (pe_un un_neg (by exact pe_int)) set_list))) (pss_one (ps_expr (pe_bm PySem.F.plainAttrs_list PySem.F.slot_list_append PySem.F.type_list_append mt_append (pv 1) (pa_cons (pe_tup (pa_cons (pv 3) (pa_cons (pv 4) pa_nil))) pa_nil)))))))
    (pss_one (ps_ret (pv 1)))))
theorem pure_pieces_of (T : Txt K mg) (h : sp_pieces_of K vs H Q E) : t_pieces_of K { nx := fun _ H' => Q .non H', rt := Q } (start NL_pieces_of vs) H := by
  obtain ⟨aW, way, rfl, hW, hlen, k⟩ := h
  refine q_asgL el_nil fun D H1 hD e1 h1 => ?_
  refine q_forRow (H0 := H) (ev_var rfl) hW (fun i σ' H' => ∃ (ts : List Addr) (u v w x : Option V), σ' = [some (.ref aW), some (.ref D), u, v, w, x] ∧ Ex H H' ∧ H' D = some (.lst (ts.map V.ref)) ∧ Tups K H' ts ((piecesL (way.take i)).map encQ) ∧ (piecesL (way.take i)).length ≤ i)
    (fun H2 e2 => ⟨[], none, none, none, none, rfl, e1.trans e2, e2 _ _ h1, .nil, Nat.le_refl _⟩) (fun i σ' H' ⟨_, _, _, _, _, _, e, _⟩ => e) ?_ ?_
  · rintro i s σ' H' hs ⟨ts, u, v, w', x, rfl, e, h4, h5, h6⟩
    obtain ⟨acc, hacc⟩ : ∃ acc, acc = piecesL (way.take i) := ⟨_, rfl⟩
    have hnext := piecesL_take hs
    rw [← hacc] at h5 h6 hnext
    have hil := (List.getElem?_eq_some_iff.mp hs).1
    have hl : ts.length = acc.length := by rw [h5.length, List.length_map]
    refine ⟨_, _, rfl, _, _, rfl, _, _, rfl, _, _, rfl, rfl, ?_⟩
    show tIfS _ _ _ _ [some (.ref aW), some (.ref D), some (.int (cellsS s : Int)), some (.int (kS s)), some (.int (longS s : Int)), some (.int (worthS s : Int))] H'
    have hD' : ∀ {n : Nat} {q : Int × Int}, acc.length = n + 1 → acc[n]? = some q → ∃ t, ts[n]? = some t ∧ SqT K H' t [.int q.1, .int q.2] := fun {n q} hn hq => tups_at (k := encQ q) h5 (by rw [List.getElem?_map, hq]; rfl)
    have hlast : ∀ {n : Nat}, acc.length = n + 1 → acc.getLast? = acc[n]? := fun {n} hn => by rw [List.getLast?_eq_getElem?, hn]; rfl
    refine s_if (b := kS s == -1 && (decide ((0 : Int) < (acc.length : Int)) && ((acc.getLast?.map fun q => q.1).getD 0 == -1))) (et_and (et_test (ev_eqi (ev_var rfl) (ev_neg ev_c))) fun _ => et_and (et_test (ev_gt (ev_is (ev_len (ev_var rfl) (sq_of h4)) (by rw [List.length_map, hl])) ev_c)) fun hpos => et_test (ev_eqi ?_ (ev_neg ev_c))) (fun hb H2 e2 => ?_) (fun hb H2 e2 => ?_)
    · have := of_decide_eq_true hpos
      obtain ⟨n, hn⟩ : ∃ n, acc.length = n + 1 := ⟨acc.length - 1, by omega⟩
      have hg : acc[n]? = some acc[n] := List.getElem?_eq_getElem (by omega)
      obtain ⟨t, ht1, ht2⟩ := hD' hn hg
      rw [hlast hn, hg]
      exact ev_ixT (ev_ixL (ev_var rfl) (ev_neg ev_c) (sq_of h4) (at_last (n := n) (by rw [List.length_map]; omega) (by rw [List.getElem?_map, ht1]; rfl))) ev_c ht2 rfl
    · rw [Bool.and_eq_true, Bool.and_eq_true, beq_iff_eq, beq_iff_eq] at hb
      obtain ⟨c1, c2, c3⟩ := hb
      have := of_decide_eq_true c2
      obtain ⟨n, hn⟩ : ∃ n, acc.length = n + 1 := ⟨acc.length - 1, by omega⟩
      have hg : acc[n]? = some acc[n] := List.getElem?_eq_getElem (by omega)
      obtain ⟨t, ht1, ht2⟩ := hD' hn hg
      have hgl := (hlast hn).trans hg
      rw [hgl] at c3
      have eadd : addP acc s = acc.set n (-1, acc[n].2 + longS s) := by
        unfold addP
        rw [hgl, if_pos ⟨c1, congrArg some c3⟩, set_last _ _ _ hn]
        rfl
      have h4' := e2 _ _ h4
      refine s_setLastU (n := n) h4' (by rw [List.length_map]; omega) (eu_tup (ea_cons (ev_neg ev_c) (ea_cons (ev_add (ev_ixT (ev_ixL (ev_var rfl) (ev_neg ev_c) (sq_of h4') (at_last (n := n) (by rw [List.length_map]; omega) (by rw [List.getElem?_map, ht1]; rfl))) ev_c (ex_t e2 ht2) rfl) (ev_var rfl)) ea_nil)) (by show 2 ≤ 100000; decide)) (ev_var rfl) (ev_neg ev_c) fun p H3 hp e3 h3 => ?_
      have b3 : But D H2 (upd H3 D (.lst ((ts.map V.ref).set n (.ref p)))) := ((But.refl _ H2).ex e3).upd
      have pn : p ≠ D := fun z => by
        rw [z, h4'] at hp
        cases hp
      refine ⟨ts.set n p, _, _, _, _, rfl, Ex.mut ((e.trans e2).trans e3) hD, ?_, ?_, ?_⟩
      · rw [List.map_set]
        exact upd_same
      · rw [hnext, eadd, List.map_set]
        exact paired_set (b3.tups h4' (tups_ex e2 h5)) (st_of (by rw [upd_ne pn]; exact h3))
      · rw [hnext, eadd, List.length_set]
        omega
    · have eadd : addP acc s = acc ++ [(kS s, (longS s : Int))] := by
        unfold addP
        rw [if_neg]
        rintro ⟨c1, c2⟩
        rw [c1, c2] at hb
        have : 0 < acc.length := by
          cases acc with
          | nil => cases c2
          | cons a r => exact Nat.succ_pos _
        rw [decide_eq_true (show (0 : Int) < (acc.length : Int) by omega)] at hb
        cases hb
      refine s_appU (xs := ts.map V.ref) (ys := (encQ (kS s, (longS s : Int))).map V.int) (e2 _ _ h4) (ev_var rfl) (eu_tup (ea_cons (ev_var rfl) (ea_cons (ev_var rfl) ea_nil)) (by show 2 ≤ 100000; decide)) (by rw [List.length_map]; omega) fun p H3 hp e3 h3 => ?_
      refine ⟨ts ++ [p], _, _, _, _, rfl, Ex.mut ((e.trans e2).trans e3) hD, ?_, ?_, ?_⟩
      · rw [map_snoc]
        exact upd_same
      · rw [hnext, eadd, List.map_append]
        exact tups_snoc (e2 _ _ h4) (tups_ex e2 h5) e3 hp h3
      · rw [hnext, eadd, List.length_append, List.length_singleton]
        omega
  · rintro σ' H' ⟨ts, u, v, w', x, rfl, e, h4, h5, h6⟩
    rw [List.take_length] at h5
    exact s_ret (ev_var rfl) fun H2 e2 => k D ts H2 hD (e.trans e2) (e2 _ _ h4) (tups_ex e2 h5)
theorem ok_pieces_of (T : Txt K mg) : Good P w K mg base ("pieces_of", none) 1 ["way"] (sp_pieces_of K) :=
  good_mk (d := d_pieces_of) T 68 rfl rfl rfl sc_pieces_of (fun vs H Q E h => len_pieces_of h) (fun _ _ _ _ _ _ us hl => match us, hl with | [_], _ => rfl) (fun cdv A outer s H E hr => w_pieces_of T cdv A outer s H E hr) (fun vs H Q E h => pure_pieces_of T h)
def toldP (l : List (Int × Int)) : List Int := (l.length : Int) :: l.flatMap encQ
theorem piecesL_len (way : List TimBuck.Step) : (piecesL way).length ≤ way.length := by
  have h : ∀ (w : List TimBuck.Step) (acc : List (Int × Int)), (w.foldl addP acc).length ≤ acc.length + w.length := by
    intro w
    induction w with
    | nil => intro acc; exact Nat.le_refl _
    | cons x w ih =>
      intro acc
      rw [List.foldl_cons, List.length_cons]
      have := ih (addP acc x)
      have h2 : (addP acc x).length ≤ acc.length + 1 := by
        unfold addP
        split
        · rw [List.length_append, List.length_dropLast, List.length_singleton]
          omega
        · rw [List.length_append, List.length_singleton]
          omega
      omega
  have := h way []
  rw [List.length_nil, Nat.zero_add] at this
  exact this
def sp_told_way (K : PySem.W.Frag) : Sp := fun vs H Q _ => ∃ (aW : Addr) (way : List TimBuck.Step), vs = [.ref aW] ∧ RowAt K H aW way ∧ way.length ≤ 1000 ∧ RetL ((toldP (piecesL way)).map V.int) H Q
theorem len_told_way (h : sp_told_way K vs H Q E) : vs.length = 1 := by
  obtain ⟨a, b, rfl, _⟩ := h
  rfl
abbrev NL_told_way : List Str := ["way", "pieces", "numbers", "k", "length"]
theorem sc_told_way : FnScope NL_told_way ["way"] (defScope s_told_way) := ⟨rfl, rfl, rfl, by decide +kernel, rfl, by decide +kernel, by decide +kernel⟩
def t_told_way (K : PySem.W.Frag) : TS := (tSeq (tAsg (tCall (sp_pieces_of K) [] E0 (tCons (tVar 0) tNil)) (gName 1))
    (tSeq (tAsg (tLst (tCons (tCB (rLenS K) (tCons (tVar 1) tNil)) tNil)) (gName 2))
    (tSeq (tFor (iList K (tVar 1)) (gTup K 2 (gCons (gName 3) (gCons (gName 4) gNil))) (tSeq (tDrop (tBM K "list" rAppend (tVar 2) (tCons (tVar 3) tNil)))
    (tDrop (tBM K "list" rAppend (tVar 2) (tCons (tVar 4) tNil)))))
    (tRet (tVar 2)))))
theorem w_told_way (T : Txt K mg) (cdv : Value) (A : Around) (outer : List Env) (s : Shared) (H : Hp) (E : XK) (hr : Room 1 (A.deeper (envOfC "told_way" (defScope s_told_way) s.heap.objs.size (He.fAd K ("told_way", none)) cdv))) :
    PSs (cxOf CX0 P w K mg base NL_told_way "told_way" (defScope s_told_way) (He.fAd K ("told_way", none)) cdv A outer s H E).nox (defBody s_told_way) (t_told_way K) := by
  exact (pss_cons (ps_set (i := 1) sc_told_way.nd rfl (.inl rfl) (pe_callG (ok_pieces_of T) (hr.mono (by decide)) rfl (T.glo 50 rfl) (pa_cons (pv 0) pa_nil)))
    (pss_cons (ps_set (i := 2) sc_told_way.nd rfl (.inl rfl) (pe_lst (pa_cons (pe_callB call_len_seq rfl (T.free 78 rfl) (by decide +kernel) (pa_cons (pv 1) pa_nil)) pa_nil)))
    (pss_cons (ps_for PassesOwn.never rfl (pi_list (pv 1)) (pg_tup rfl (pgs_cons (pg_name (i := 3) sc_told_way.nd rfl (.inl rfl)) (pgs_cons (pg_name (i := 4) sc_told_way.nd rfl (.inl rfl)) pgs_nil))) (pss_cons (ps_expr (pe_bm PySem.F.plainAttrs_list PySem.F.slot_list_append PySem.F.type_list_append mt_append (pv 2) (pa_cons (pv 3) pa_nil)))
    (pss_one (ps_expr (pe_bm PySem.F.plainAttrs_list PySem.F.slot_list_append PySem.F.type_list_append mt_append (pv 2) (pa_cons (pv 4) pa_nil))))))
    (pss_one (ps_ret (pv 2))))))
theorem pure_told_way (T : Txt K mg) (h : sp_told_way K vs H Q E) : t_told_way K { nx := fun _ H' => Q .non H', rt := Q } (start NL_told_way vs) H := by
  obtain ⟨aW, way, rfl, hW, hlen, k⟩ := h
  have hpl := piecesL_len way
  refine q_asgX (ex_call (X := isT K ((piecesL way).map encQ)) (ea_cons (ev_var rfl) ea_nil) (fun H1 e Q' q => ⟨aW, way, rfl, hW.mono e, hlen, isT_of q⟩) isT_mono) fun v H1 e1 hv => ?_
  obtain ⟨p, ts, rfl, hp, hl, hT⟩ := hv
  have htl : ts.length = (piecesL way).length := by rw [hT.length, List.length_map]
  refine q_asgL (el_lst (ea_cons (ev_is (ev_len (ev_var rfl) (sq_of hl)) (by rw [List.length_map, htl])) ea_nil) (by show 1 ≤ 100000; decide)) fun D H2 hD e2 h2 => ?_
  refine q_forTup (H0 := H1) (ev_var rfl) (sq_of hl) hT (fun i σ' H' => ∃ (u v : Option V), σ' = [some (.ref aW), some (.ref p), some (.ref D), u, v] ∧ Ex H1 H' ∧ H' D = some (.lst ((((piecesL way).length : Int) :: ((piecesL way).take i).flatMap encQ).map V.int))) (fun H3 e3 => ⟨none, none, rfl, e2.trans e3, e3 _ _ h2⟩) (fun i σ' H' ⟨_, _, _, e, _⟩ => e) ?_ ?_
  · rintro i κ σ' H' hκ ⟨u, v, rfl, e, h4⟩
    obtain ⟨q, hq, rfl⟩ := map_at hκ
    have hil := (List.getElem?_eq_some_iff.mp hq).1
    refine ⟨rfl, _, _, rfl, _, _, rfl, rfl, ?_⟩
    show tSeq _ _ _ [some (.ref aW), some (.ref p), some (.ref D), some (.int q.1), some (.int q.2)] H'
    have hlen2 : (((((piecesL way).length : Int) :: ((piecesL way).take i).flatMap encQ).map V.int)).length ≤ 1 + 2 * i := by
      have h : ∀ l : List (Int × Int), (l.flatMap encQ).length = 2 * l.length := by
        intro l
        induction l with
        | nil => rfl
        | cons a l ih =>
          rw [List.flatMap_cons, List.length_append, ih]
          show 2 + 2 * l.length = 2 * (l.length + 1)
          omega
      rw [List.length_map, List.length_cons, h, List.length_take]
      omega
    refine q_app h4 (ev_var rfl) (ev_var rfl) (by omega) fun H3 e3 => ?_
    refine s_app upd_same (ev_var rfl) (ev_var rfl) (by rw [List.length_append, List.length_singleton]; omega) fun H4 e4 => ⟨_, _, rfl, Ex.mut ((Ex.mut (e.trans e3) hD).trans e4) hD, ?_⟩
    rw [upd_same, get_take hq, List.flatMap_append, List.map_cons, List.map_cons, List.map_append, List.append_assoc]
    rfl
  · rintro σ' H' ⟨u, v, rfl, e, h4⟩
    rw [List.length_map, List.take_length] at h4
    exact s_ret (ev_var rfl) fun H3 e3 => k D H3 (fresh_back e1 hD) ((e1.trans e).trans e3) (e3 _ _ h4)
theorem ok_told_way (T : Txt K mg) : Good P w K mg base ("told_way", none) 2 ["way"] (sp_told_way K) :=
  good_mk (d := d_told_way) T 69 rfl rfl rfl sc_told_way (fun vs H Q E h => len_told_way h) (fun _ _ _ _ _ _ us hl => match us, hl with | [_], _ => rfl) (fun cdv A outer s H E hr => w_told_way T cdv A outer s H E hr) (fun vs H Q E h => pure_told_way T h)
end
end Sb
end
section
set_option maxHeartbeats 4000000
namespace Sb
open PySem PySem.Spec PySem.Calls PyProof.Rows L2 Evl
open TimBuck (Stem Product Piece diameterIn Log)
theorem set_midG {α : Type} (n : Nat) (x v : α) (w : List α) : (List.replicate (n + 1) x ++ w).set n v = List.replicate n x ++ v :: w := by
  induction n with
  | zero => rfl
  | succ n ih =>
    rw [List.replicate_succ, List.cons_append, List.set_cons_succ, ih, List.replicate_succ (n := n), List.cons_append]
section
variable {K : PySem.W.Frag} {σ : L2.St} {H : Hp} {ta tb : TE}
theorem el_cat {xs ys : List V} (h1 : EvL ta σ H xs) (h2 : EvL tb σ H ys) (hz : xs.length + ys.length ≤ 100000) : EvL (tOp rCat ta tb) σ H (xs ++ ys) := fun H1 e Q q =>
  h1 H1 e _ fun p H2 hp e2 h3 => h2 H2 (e.trans e2) _ fun p' H3 hp' e3 h4 => ⟨p, p', xs, ys, rfl, rfl, e3 _ _ h3, h4, sz_of hz, fun r hr => q r _ (fresh_back (e2.trans e3) hr) ((e2.trans e3).trans (Ex.new hr)) upd_same⟩
theorem el_catV {xs ys : List V} {b : Addr} (h1 : EvL ta σ H xs) (h2 : Ev tb σ H (.ref b)) (hb : H b = some (.lst ys)) (hz : xs.length + ys.length ≤ 100000) : EvL (tOp rCat ta tb) σ H (xs ++ ys) := fun H1 e Q q =>
  h1 H1 e _ fun p H2 hp e2 h3 => h2 H2 (e.trans e2) _ fun H3 e3 => ⟨p, b, xs, ys, rfl, rfl, e3 _ _ h3, e3 _ _ (e2 _ _ (e _ _ hb)), sz_of hz, fun r hr => q r _ (fresh_back (e2.trans e3) hr) ((e2.trans e3).trans (Ex.new hr)) upd_same⟩
end
/-! ## counted ways -/
/-- a worth that is there is at least 0 -/
def mwUp (f : Int) (x : TimBuck.Step) (v : Int) : Int := if 0 ≤ v then (if (worthS x : Int) + v > f then (worthS x : Int) + v else f) else f
def mwStep (g : Nat → Nat → Int) (k : Int) (c : Nat) (f : Int) (x : TimBuck.Step) : Int := if kS x = k then (if c = 0 then f else mwUp f x (g (cellsS x) (c - 1))) else mwUp f x (g (cellsS x) c)
def mw (g : Nat → Nat → Int) (k : Int) (c : Nat) (l : List TimBuck.Step) : Int := l.foldl (mwStep g k c) (-1)
def get2 (rs : List (List Int)) (i c : Nat) : Int := (rs.getD i []).getD c (-1)
def countB (L : Nat) (k : Int) : List (List TimBuck.Step) → List (List Int)
  | [] => []
  | [_] => [0 :: List.replicate L (-1)]
  | l :: m :: r => ((List.range (L + 1)).map fun c => mw (fun i c => get2 (countB L k (m :: r)) (i - 1) c) k c l) :: countB L k (m :: r)
theorem countB_len (L : Nat) (k : Int) : ∀ b : List (List TimBuck.Step), (countB L k b).length = b.length
  | [] => rfl
  | [_] => rfl
  | l :: m :: r => by
    show (countB L k (m :: r)).length + 1 = _
    rw [countB_len L k (m :: r)]
    rfl
theorem countB_each (L : Nat) (k : Int) : ∀ (b : List (List TimBuck.Step)), ∀ ns ∈ countB L k b, ns.length = L + 1
  | [], ns, h => absurd h List.not_mem_nil
  | [_], ns, h => by
    rcases List.mem_cons.mp h with rfl | h
    · rw [List.length_cons, List.length_replicate]
    · exact absurd h List.not_mem_nil
  | l :: m :: r, ns, h => by
    rcases List.mem_cons.mp h with rfl | h
    · rw [List.length_map, List.length_range]
    · exact countB_each L k (m :: r) ns h
theorem countB_cons {L : Nat} {k : Int} {b : List (List TimBuck.Step)} {n : Nat} {l : List TimBuck.Step} (h : b[n]? = some l) (hi : n + 1 < b.length) : countB L k (b.drop n) = ((List.range (L + 1)).map fun c => mw (fun i c => get2 (countB L k (b.drop (n + 1))) (i - 1) c) k c l) :: countB L k (b.drop (n + 1)) := by
  have e1 : b.drop n = l :: b.drop (n + 1) := by
    rw [List.drop_eq_getElem_cons (by omega)]
    congr 1
    rw [List.getElem?_eq_getElem (by omega)] at h
    exact Option.some.inj h
  have e2 : ∃ m r, b.drop (n + 1) = m :: r := ⟨_, _, List.drop_eq_getElem_cons hi⟩
  obtain ⟨m, r, e2⟩ := e2
  rw [e1, e2]
  rfl
theorem mw_congr {g g' : Nat → Nat → Int} {k : Int} {c : Nat} : ∀ {l : List TimBuck.Step} {f : Int}, (∀ x ∈ l, ∀ c, g (cellsS x) c = g' (cellsS x) c) → l.foldl (mwStep g k c) f = l.foldl (mwStep g' k c) f
  | [], _, _ => rfl
  | x :: l, f, h => by
    rw [List.foldl_cons, List.foldl_cons]
    have e : mwStep g k c f x = mwStep g' k c f x := by
      unfold mwStep
      rw [h x (List.mem_cons_self ..), h x (List.mem_cons_self ..)]
    rw [e]
    exact mw_congr fun y hy => h y (List.mem_cons_of_mem _ hy)
section
variable {P : Program} {w : World} {K : PySem.W.Frag} {mg : Str → Option Value} {base : Heap} {vs : List V} {H : Hp} {Q : VK} {E : XK}
/-- lists of whole numbers, apart from D -/
def NsAt (K : PySem.W.Frag) (H : Hp) (D : Addr) (rows : List Addr) (rs : List (List Int)) : Prop := Paired (fun r (ns : List Int) => r ≠ D ∧ SqL K H r (ns.map V.int)) rows rs
theorem NsAt.mono {H' : Hp} {D : Addr} {rows : List Addr} {rs : List (List Int)} (e : Ex H H') (h : NsAt K H D rows rs) : NsAt K H' D rows rs := Paired.mapP h fun _ _ z => ⟨z.1, ex_l e z.2⟩
theorem NsAt.but {H' : Hp} {D : Addr} {rows : List Addr} {rs : List (List Int)} (b : But D H H') (h : NsAt K H D rows rs) : NsAt K H' D rows rs := Paired.mapP h fun _ _ z => ⟨z.1, sqL_but (zs := []) z.1 z.2 b⟩
def sp_most_with (K : PySem.W.Frag) : Sp := fun vs H Q _ => ∃ (aS : Addr) (l : List TimBuck.Step) (aR : Addr) (rows : List Addr) (rs : List (List Int)) (i : Nat) (k : Int) (c L : Nat), vs = [.ref aS, .ref aR, .int (i : Int), .int k, .int (c : Int)] ∧ RowAt K H aS l ∧ SqL K H aR (rows.map V.ref) ∧ NsAt K H aR rows rs ∧ (∀ x ∈ l, i + cellsS x < rs.length) ∧ (∀ ns ∈ rs, ns.length = L) ∧ c < L ∧
  ∀ H', Ex H H' → Q (.int (mw (fun j c => get2 rs (i + j) c) k c l)) H'
theorem len_most_with (h : sp_most_with K vs H Q E) : vs.length = 5 := by
  obtain ⟨a, b, c, d, e, f, g, i, j, rfl, _⟩ := h
  rfl
abbrev NL_most_with : List Str := ["steps", "later", "at", "k", "count", "found", "cells", "product", "paid", "worth", "left"]
theorem sc_most_with : FnScope NL_most_with ["steps", "later", "at", "k", "count"] (defScope s_most_with) := ⟨rfl, rfl, rfl, by decide +kernel, rfl, by decide +kernel, by decide +kernel⟩
def t_most_with (K : PySem.W.Frag) : TS := (tSeq (tAsg (tUn (rU fun i => .int (-i)) (tC (.int 1))) (gName 5))
    (tSeq (tFor (iList K (tVar 0)) (gTup K 4 (gCons (gName 6) (gCons (gName 7) (gCons (gName 8) (gCons (gName 9) gNil))))) (tSeq (tAsg (tIf (tTest (tOp rEq (tVar 7) (tVar 3))) (tOp (rI0 fun i j => .int (i - j)) (tVar 4) (tC (.int 1))) (tVar 4)) (gName 10))
    (tIfS (tAnd (tTest (tOp (rI0 fun i j => .bl (decide (j ≤ i))) (tVar 10) (tC (.int 0)))) (tTest (tOp (rI0 fun i j => .bl (decide (j ≤ i))) (tOp (rIxL K) (tOp (rIxL K) (tVar 1) (tOp (rI0 fun i j => .int (i + j)) (tVar 2) (tVar 6))) (tVar 10)) (tC (.int 0))))) (tAsg (tCB rMax2 (tCons (tVar 5) (tCons (tOp (rI0 fun i j => .int (i + j)) (tVar 9) (tOp (rIxL K) (tOp (rIxL K) (tVar 1) (tOp (rI0 fun i j => .int (i + j)) (tVar 2) (tVar 6))) (tVar 10))) tNil))) (gName 5)) tNext)))
    (tRet (tVar 5))))
theorem w_most_with (T : Txt K mg) (cdv : Value) (A : Around) (outer : List Env) (s : Shared) (H : Hp) (E : XK) (hr : Room 0 (A.deeper (envOfC "most_with" (defScope s_most_with) s.heap.objs.size (He.fAd K ("most_with", none)) cdv))) :
    PSs (cxOf CX0 P w K mg base NL_most_with "most_with" (defScope s_most_with) (He.fAd K ("most_with", none)) cdv A outer s H E).nox (defBody s_most_with) (t_most_with K) := by
  exact (pss_cons (ps_set (i := 5) sc_most_with.nd rfl (.inl rfl) (pe_un un_neg (by exact pe_int)))
    (pss_cons (ps_for PassesOwn.never rfl (pi_list (pv 0)) (pg_tup rfl (pgs_cons (pg_name (i := 6) sc_most_with.nd rfl (.inl rfl)) (pgs_cons (pg_name (i := 7) sc_most_with.nd rfl (.inl rfl)) (pgs_cons (pg_name (i := 8) sc_most_with.nd rfl (.inl rfl)) (pgs_cons (pg_name (i := 9) sc_most_with.nd rfl (.inl rfl)) pgs_nil))))) (pss_cons (ps_set (i := 10) sc_most_with.nd rfl (.inl rfl) (pe_ifExp (pt_cmpR op_eq (pv 7) (pv 3) (nomark _)) (pe_op op_sub (pv 4) (by exact pe_int)) (pv 4)))
    (pss_one (ps_if (PW.pt (pw_and (pt_cmpR op_ge (pv 10) (by exact pe_int) (nomark _)) (pw_and1 (pt_cmpR op_ge (pe_ix ix_list (pe_ix ix_list (pv 1) (pe_op op_add (pv 2) (pv 6)) (fun _ _ => rfl)) (pv 10) (fun _ _ => rfl)) (by exact pe_int) (nomark _))))) (pss_one (ps_set (i := 5) sc_most_with.nd rfl (.inl rfl) (pe_callB (call_max2 rfl) rfl (T.free 80 rfl) (by decide +kernel) (pa_cons (pv 5) (pa_cons (pe_op op_add (pv 9) (pe_ix ix_list (pe_ix ix_list (pv 1) (pe_op op_add (pv 2) (pv 6)) (fun _ _ => rfl)) (pv 10) (fun _ _ => rfl))) pa_nil))))) pss_nil))))
    (pss_one (ps_ret (pv 5)))))
theorem pure_most_with (T : Txt K mg) (h : sp_most_with K vs H Q E) : t_most_with K { nx := fun _ H' => Q .non H', rt := Q } (start NL_most_with vs) H := by
  obtain ⟨aS, l, aR, rows, rs, i, k', c, L, rfl, hS, hR, hN, hfit, hL, hc, k⟩ := h
  obtain ⟨g, hg⟩ : ∃ g : Nat → Nat → Int, g = fun j c => get2 rs (i + j) c := ⟨_, rfl⟩
  rw [← hg] at k
  have hl2 := hN.length
  refine q_asg (ev_neg ev_c) fun H1 e1 => ?_
  refine q_forRow (H0 := H) (ev_var rfl) hS (fun j σ' H' => ∃ (f : Int) (u v w x y : Option V), σ' = [some (.ref aS), some (.ref aR), some (.int (i : Int)), some (.int k'), some (.int (c : Int)), some (.int f), u, v, w, x, y] ∧ Ex H H' ∧ f = (l.take j).foldl (mwStep g k' c) (-1))
    (fun H2 e2 => ⟨_, none, none, none, none, none, rfl, e1.trans e2, rfl⟩) (fun j σ' H' ⟨_, _, _, _, _, _, _, e, _⟩ => e) ?_ ?_
  · rintro j s σ' H' hs ⟨f, u, v, w', x, y, rfl, e, hf⟩
    have hsm := List.mem_of_getElem? hs
    have hi := hfit s hsm
    refine ⟨_, _, rfl, _, _, rfl, _, _, rfl, _, _, rfl, rfl, ?_⟩
    show tSeq _ _ _ [some (.ref aS), some (.ref aR), some (.int (i : Int)), some (.int k'), some (.int (c : Int)), some (.int f), some (.int (cellsS s : Int)), some (.int (kS s)), some (.int (longS s : Int)), some (.int (worthS s : Int)), y] H'
    obtain ⟨left, hleft⟩ : ∃ left : Int, left = if kS s = k' then (c : Int) - 1 else (c : Int) := ⟨_, rfl⟩
    refine q_asg (v := .int left) (ev_if (b := decide (kS s = k')) (et_is (et_test (ev_eqi (ev_var rfl) (ev_var rfl))) (by rw [Bool.eq_iff_iff, beq_iff_eq, decide_eq_true_eq])) (fun hb => ev_int (ev_sub (ev_var rfl) ev_c) (by rw [hleft, if_pos (of_decide_eq_true hb)])) (fun hb => ev_int (ev_var rfl) (by rw [hleft, if_neg (of_decide_eq_false hb)]))) fun H2 e2 => ?_
    show tIfS _ _ _ _ [some (.ref aS), some (.ref aR), some (.int (i : Int)), some (.int k'), some (.int (c : Int)), some (.int f), some (.int (cellsS s : Int)), some (.int (kS s)), some (.int (longS s : Int)), some (.int (worthS s : Int)), some (.int left)] H2
    have e' := e.trans e2
    have hrow : rows[i + cellsS s]? = some rows[i + cellsS s] := List.getElem?_eq_getElem (by omega)
    have hrs : rs[i + cellsS s]? = some rs[i + cellsS s] := List.getElem?_eq_getElem hi
    have hns := (paired_get2 hN hrow hrs).2
    have hlen : rs[i + cellsS s].length = L := hL _ (List.getElem_mem _)
    have hval : ∀ d : Nat, left = (d : Int) → Ev (tOp (rIxL K) (tOp (rIxL K) (tVar 1) (tOp (rI0 fun i j => .int (i + j)) (tVar 2) (tVar 6))) (tVar 10)) [some (.ref aS), some (.ref aR), some (.int (i : Int)), some (.int k'), some (.int (c : Int)), some (.int f), some (.int (cellsS s : Int)), some (.int (kS s)), some (.int (longS s : Int)), some (.int (worthS s : Int)), some (.int left)] H2 (.int (g (cellsS s) d)) := fun d hd => by
      have hdl : d < L := by
        rw [hd] at hleft
        split at hleft <;> omega
      have hg2 : rs[i + cellsS s][d]? = some (g (cellsS s) d) := by
        rw [hg]
        show rs[i + cellsS s][d]? = some ((rs.getD (i + cellsS s) []).getD d (-1))
        have e0 : rs.getD (i + cellsS s) [] = rs[i + cellsS s] := by
          rw [List.getD_eq_getElem?_getD, hrs]
          rfl
        rw [e0, List.getD_eq_getElem?_getD, List.getElem?_eq_getElem (by omega)]
        rfl
      exact ev_ixL (ev_ixL (ev_var rfl) (ev_add (ev_var rfl) (ev_var rfl)) (ex_l e' hR) (at_ref (n := i + cellsS s) (by omega) hrow)) (ev_var rfl) (ex_l e' hns) (at_int (n := d) hd hg2)
    have hnext : (l.take (j + 1)).foldl (mwStep g k' c) (-1) = mwStep g k' c f s := by
      rw [get_take hs, List.foldl_append, ← hf]
      rfl
    by_cases c0 : kS s = k' ∧ c = 0
    · have hl0 : left = -1 := by
        rw [hleft, if_pos c0.1, c0.2]
        rfl
      refine s_when (b := false) (et_is (et_and (b := false) (et_test (ev_ge (ev_var rfl) ev_c)) fun hb => ?_) (by rw [Bool.and_false])) (fun hb => by cases hb) (fun hb H3 e3 => ⟨f, _, _, _, _, _, rfl, e'.trans e3, ?_⟩)
      · rw [hl0] at hb
        cases hb
      · rw [hnext]
        unfold mwStep
        rw [if_pos c0.1, if_pos c0.2]
    · obtain ⟨d, hd⟩ : ∃ d : Nat, left = (d : Int) := by
        rw [hleft]
        split
        · exact ⟨c - 1, by omega⟩
        · exact ⟨c, rfl⟩
      have hstep : mwStep g k' c f s = mwUp f s (g (cellsS s) d) := by
        unfold mwStep
        rw [hd] at hleft
        by_cases ck : kS s = k'
        · rw [if_pos ck] at hleft ⊢
          rw [if_neg (fun z => c0 ⟨ck, z⟩), show c - 1 = d by omega]
        · rw [if_neg ck] at hleft ⊢
          rw [show c = d by omega]
      have hv := hval d hd
      refine s_when (b := decide (0 ≤ g (cellsS s) d)) (et_is (et_and (et_test (ev_ge (ev_var rfl) ev_c)) fun hb => et_test (ev_ge hv ev_c)) ?_) (fun hb H3 e3 => s_asg (ev_max2 (ev_var rfl) (ev_add (ev_var rfl) (hv.mono e3))) fun H4 e4 => ⟨_, _, _, _, _, _, rfl, (e'.trans e3).trans e4, ?_⟩) (fun hb H3 e3 => ⟨f, _, _, _, _, _, rfl, e'.trans e3, ?_⟩)
      · rw [hd, decide_eq_true (show (0 : Int) ≤ (d : Int) by omega), Bool.true_and]
      · rw [hnext, hstep]
        unfold mwUp
        rw [if_pos (of_decide_eq_true hb)]
      · rw [hnext, hstep]
        unfold mwUp
        rw [if_neg (of_decide_eq_false hb)]
  · rintro σ' H' ⟨f, u, v, w', x, y, rfl, e, hf⟩
    rw [List.take_length] at hf
    refine s_ret (ev_var rfl) fun H2 e2 => ?_
    rw [hf]
    exact k H2 (e.trans e2)
theorem ok_most_with (T : Txt K mg) : Good P w K mg base ("most_with", none) 1 ["steps", "later", "at", "k", "count"] (sp_most_with K) :=
  good_mk (d := d_most_with) T 70 rfl rfl rfl sc_most_with (fun vs H Q E h => len_most_with h) (fun _ _ _ _ _ _ us hl => match us, hl with | [_, _, _, _, _], _ => rfl) (fun cdv A outer s H E hr => w_most_with T cdv A outer s H E hr) (fun vs H Q E h => pure_most_with T h)
def sp_most_by_logs (K : PySem.W.Frag) : Sp := fun vs H Q _ => ∃ (aB : Addr) (b : List (List TimBuck.Step)) (k : Int), vs = [.ref aB, .int k] ∧ BoardAt K H aB b ∧ BoardOk b ∧ ∀ p H', Ex H H' → SqL K H' p (((countB ((b.length - 1) / 10) k b).headD []).map V.int) → Q (.ref p) H'
theorem len_most_by_logs (h : sp_most_by_logs K vs H Q E) : vs.length = 2 := by
  obtain ⟨a, b, c, rfl, _⟩ := h
  rfl
abbrev NL_most_by_logs : List Str := ["board", "k", "limit", "rows", "at", "steps", "count"]
theorem sc_most_by_logs : FnScope NL_most_by_logs ["board", "k"] (defScope s_most_by_logs) := ⟨rfl, rfl, rfl, by decide +kernel, rfl, by decide +kernel, by decide +kernel⟩
def t_most_by_logs (K : PySem.W.Frag) : TS := (tSeq (tAsg (tOp (rI CDiv fun i j => .int (i / j)) (tOp (rI0 fun i j => .int (i - j)) (tCB (rLenS K) (tCons (tVar 0) tNil)) (tC (.int 1))) (tC (.int 10))) (gName 2))
    (tSeq (tAsg (tLc (iList K (tVar 0)) (gName 5) tYes (tOp rCat (tLst (tCons (tC (.int 0)) tNil)) (tOp rRep (tLst (tCons (tUn (rU fun i => .int (-i)) (tC (.int 1))) tNil)) (tVar 2))) [5]) (gName 3))
    (tSeq (tFor (iRng3 (tCons (tOp (rI0 fun i j => .int (i - j)) (tCB (rLenS K) (tCons (tVar 0) tNil)) (tC (.int 2))) (tCons (tUn (rU fun i => .int (-i)) (tC (.int 1))) (tCons (tUn (rU fun i => .int (-i)) (tC (.int 1))) tNil)))) (gName 4) (tAsg (tLc (iRng1 (tCons (tOp (rI0 fun i j => .int (i + j)) (tVar 2) (tC (.int 1))) tNil)) (gName 6) tYes (tCall (sp_most_with K) [] E0 (tCons (tOp (rIxL K) (tVar 0) (tVar 4)) (tCons (tVar 3) (tCons (tVar 4) (tCons (tVar 1) (tCons (tVar 6) tNil)))))) [6]) (gSub (tVar 3) (tVar 4) rSetL)))
    (tRet (tOp (rIxL K) (tVar 3) (tC (.int 0)))))))
theorem w_most_by_logs (T : Txt K mg) (cdv : Value) (A : Around) (outer : List Env) (s : Shared) (H : Hp) (E : XK) (hr : Room 1 (A.deeper (envOfC "most_by_logs" (defScope s_most_by_logs) s.heap.objs.size (He.fAd K ("most_by_logs", none)) cdv))) :
    PSs (cxOf CX0 P w K mg base NL_most_by_logs "most_by_logs" (defScope s_most_by_logs) (He.fAd K ("most_by_logs", none)) cdv A outer s H E).nox (defBody s_most_by_logs) (t_most_by_logs K) := by
  exact (pss_cons (ps_set (i := 2) sc_most_by_logs.nd rfl (.inr rfl) (pe_op op_fdiv (pe_op op_sub (pe_callB call_len_seq rfl (T.free 78 rfl) (by decide +kernel) (pa_cons (pv 0) pa_nil)) (by exact pe_int)) (by exact pe_int)))
    (pss_cons (ps_set (i := 3) sc_most_by_logs.nd rfl (.inr rfl) (pe_lc (own := [("steps", 5)]) (g := gName 5) (tt := tYes) rfl sc_most_by_logs.nd (pi_list (pv 0)) (blkOk_by (own := [("steps", 5)]) (N := NL_most_by_logs) (sc := (defScope s_most_by_logs)) (by decide +kernel)) (fun _ _ _ _ _ => pg_name (i := 5) sc_most_by_logs.nd rfl (.inl rfl)) (fun _ _ _ _ _ => pts_nil) (fun _ _ _ _ _ => (pe_op op_cat (pe_lst (pa_cons (by exact pe_int) pa_nil)) (pe_op op_rep (pe_lst (pa_cons (pe_un un_neg (by exact pe_int)) pa_nil)) (pv 2))))))
    (pss_cons (ps_for PassesOwn.never rfl (pi_range3 rfl (T.free 79 rfl) (pa_cons (pe_op op_sub (pe_callB call_len_seq rfl (T.free 78 rfl) (by decide +kernel) (pa_cons (pv 0) pa_nil)) (by exact pe_int)) (pa_cons (pe_un un_neg (by exact pe_int)) (pa_cons (pe_un un_neg (by exact pe_int)) pa_nil)))) (pg_name (i := 4) sc_most_by_logs.nd rfl (.inr rfl)) (pss_one (ps_asg (pe_lc (own := [("count", 6)]) (g := gName 6) (tt := tYes) rfl sc_most_by_logs.nd (pi_range1 rfl (T.free 79 rfl) (pa_cons (pe_op op_add (pv 2) (by exact pe_int)) pa_nil)) (blkOk_by (own := [("count", 6)]) (N := NL_most_by_logs) (sc := (defScope s_most_by_logs)) (by decide +kernel)) (fun _ _ _ _ _ => pg_name (i := 6) sc_most_by_logs.nd rfl (.inl rfl)) (fun _ _ _ _ _ => pts_nil) (fun _ _ _ _ _ => (pe_callG (ok_most_with T) (hr.mono (by decide)) rfl (T.glo 52 rfl) (pa_cons (pe_ix ix_list (pv 0) (pv 4) (fun _ _ => rfl)) (pa_cons (pv 3) (pa_cons (pv 4) (pa_cons (pv 1) (pa_cons (pv 6) pa_nil)))))))) (pg_sub (pv 3) (pv 4) set_list))))
    (pss_one (ps_ret (pe_ix ix_list (pv 3) (by exact pe_int) (fun _ _ => rfl)))))))
theorem pure_most_by_logs (T : Txt K mg) (h : sp_most_by_logs K vs H Q E) : t_most_by_logs K { nx := fun _ H' => Q .non H', rt := Q } (start NL_most_by_logs vs) H := by
  obtain ⟨aB, b, k', rfl, hB, ok, k⟩ := h
  have l1 := ok.len
  have l2 := ok.pos
  obtain ⟨L, hL⟩ : ∃ L, L = (b.length - 1) / 10 := ⟨_, rfl⟩
  rw [← hL] at k
  refine q_asg (v := .int (L : Int)) (ev_int (ev_div (ev_sub (hB.lenE (ev_var rfl)) ev_c) ev_c (by decide)) (by omega)) fun H1 e1 => ?_
  obtain ⟨rowsB, hb1, hb2⟩ := id hB
  have hbl := hb2.length
  refine q_asgX (X := fun Hp v Hq => ∃ (R : Addr) (rows : List Addr), v = .ref R ∧ Hp R = none ∧ Hq R = some (.lst (rows.map V.ref)) ∧ NsAt K Hq R rows (List.replicate b.length (0 :: List.replicate L (-1)))) ?_ fun v H2 e2 hv => ?_
  · intro H2 e2 Q' q
    refine lc_relL (fun D i y H => ∃ r, y = .ref r ∧ r ≠ D ∧ H r = some (.lst ((0 :: List.replicate L (-1) : List Int).map V.int))) (fun D i y H1 H2 zs hz ⟨r, h1, h2, h3⟩ kk => ⟨r, h1, h2, kk _ _ h2 h3⟩) (ev_var rfl) (ex_l (e1.trans e2) hb1) (by rw [List.length_map]; omega) (fun _ => rfl) ?_ ?_
    · intro D i y H3 zs hD e3 hz hy Q2 q2
      have z : EvL (tOp rCat (tLst (tCons (tC (.int 0)) tNil)) (tOp rRep (tLst (tCons (tUn (rU fun i => .int (-i)) (tC (.int 1))) tNil)) (tVar 2))) ((wipe [some (.ref aB), some (.int k'), some (.int (L : Int)), none, none, none, none] [5]).set 5 (some y)) H3 ([V.int 0] ++ List.replicate L (V.int (-1))) :=
        el_cat (el_lst (ea_cons ev_c ea_nil) (by show 1 ≤ 100000; decide)) (el_rep (n := L) (ev_neg ev_c) (ev_var rfl) (by omega)) (by rw [List.length_replicate, List.length_singleton]; omega)
      refine z H3 (Ex.refl H3) _ fun r H4 hr e4 h4 => q2 _ _ e4 ⟨r, rfl, ?_, ?_⟩
      · rintro rfl
        rw [hz] at hr
        cases hr
      · rw [h4, List.map_cons, List.map_replicate]
        rfl
    · intro p' p ys H3 hpn e3 h3 hl hy z
      cases z
      obtain ⟨rows, rfl, hr⟩ := refs_of (F := fun r (ns : List Int) => r ≠ p' ∧ SqL K H3 r (ns.map V.int)) (ks := List.replicate b.length (0 :: List.replicate L (-1))) (by rw [hl, List.length_map, List.length_replicate, hbl]) fun j y ns h1 h2 => by
        obtain ⟨r, e1, e2, e3⟩ := hy j y h1
        have := (List.getElem?_eq_some_iff.mp h2).2
        rw [List.getElem_replicate] at this
        rw [← this]
        exact ⟨r, e1, e2, sq_of e3⟩
      exact q _ _ e3 ⟨_, rows, rfl, hpn, h3, hr⟩
  · obtain ⟨R, rows0, rfl, hR0, hR, hN⟩ := hv
    have e12 := e1.trans e2
    have hRH := fresh_back e1 hR0
    refine q_forC (lo := (b.length : Int) - 2) (hi := -1) (c := -1) (n := b.length - 1) (ea_cons (ev_sub ((hB.mono e12).lenE (ev_var rfl)) ev_c) (ea_cons (ev_neg ev_c) (ea_cons (ev_neg ev_c) ea_nil))) ?_
      (fun i σ' H' => ∃ (rows : List Addr) (u v w : Option V), σ' = [some (.ref aB), some (.int k'), some (.int (L : Int)), some (.ref R), u, v, w] ∧ Ex H H' ∧ H' R = some (.lst (rows.map V.ref)) ∧ NsAt K H' R rows (List.replicate (b.length - 1 - i) (0 :: List.replicate L (-1)) ++ countB L k' (b.drop (b.length - 1 - i)))) ?_ ?_ ?_
    · have h := RgC.neg (i := (b.length : Int) - 2) (j := -1) (by omega) (by omega) (by decide) (by decide)
      rw [show ((b.length : Int) - 2 - -1).toNat = b.length - 1 by omega] at h
      exact h
    · intro H3 e3
      refine ⟨rows0, _, _, _, rfl, e12.trans e3, e3 _ _ hR, ?_⟩
      rw [Nat.sub_zero]
      have e : b.drop (b.length - 1) = [b[b.length - 1]] := by
        rw [List.drop_eq_getElem_cons (by omega), show b.length - 1 + 1 = b.length by omega, List.drop_length]
      rw [e, show countB L k' [b[b.length - 1]] = List.replicate 1 (0 :: List.replicate L (-1)) from rfl, List.replicate_append_replicate, show b.length - 1 + 1 = b.length by omega]
      exact hN.mono e3
    · rintro i σ' H' hi ⟨rows, u, v, w', rfl, e, h2, h3⟩
      obtain ⟨n, hn⟩ : ∃ n, n = b.length - 2 - i := ⟨_, rfl⟩
      have en : b.length - 1 - i = n + 1 := by omega
      have en2 : b.length - 1 - (i + 1) = n := by omega
      have ei : (b.length : Int) - 2 + (i : Nat) * (-1) = ((n : Nat) : Int) := by omega
      rw [en] at h3
      rw [ei, en2]
      have hg : b[n]? = some b[n] := List.getElem?_eq_getElem (by omega)
      obtain ⟨r, hr, hix⟩ := (hB.mono e).ix (σ := [some (.ref aB), some (.int k'), some (.int (L : Int)), some (.ref R), some (.int (n : Int)), v, w'].set 6 (some (.int 0))) (ta := tVar 0) (tb := tVar 4) hg
      obtain ⟨rs, hrs⟩ : ∃ rs, rs = List.replicate (n + 1) (0 :: List.replicate L (-1)) ++ countB L k' (b.drop (n + 1)) := ⟨_, rfl⟩
      rw [← hrs] at h3
      have hrl : rs.length = b.length := by
        rw [hrs, List.length_append, List.length_replicate, countB_len, List.length_drop]
        omega
      have hfit := ok.fit n _ hg
      have hrow := ok.row n _ hg
      have heach : ∀ ns ∈ rs, ns.length = L + 1 := fun ns hm => by
        rw [hrs] at hm
        rcases List.mem_append.mp hm with hm | hm
        · rw [(List.mem_replicate.mp hm).2, List.length_cons, List.length_replicate]
        · exact countB_each L k' _ ns hm
      have hmw : ∀ c, mw (fun j c => get2 rs (n + j) c) k' c b[n] = mw (fun i c => get2 (countB L k' (b.drop (n + 1))) (i - 1) c) k' c b[n] := fun c => mw_congr fun x hx c => by
        obtain ⟨f1, f2⟩ := hfit x hx
        show get2 rs (n + cellsS x) c = get2 (countB L k' (b.drop (n + 1))) (cellsS x - 1) c
        unfold get2
        congr 1
        rw [hrs, List.getD_eq_getElem?_getD, List.getD_eq_getElem?_getD, List.getElem?_append_right (by rw [List.length_replicate]; omega), List.length_replicate]
        congr 2
        omega
      have hel : EvL (tLc (iRng1 (tCons (tOp (rI0 fun i j => .int (i + j)) (tVar 2) (tC (.int 1))) tNil)) (gName 6) tYes (tCall (sp_most_with K) [] E0 (tCons (tOp (rIxL K) (tVar 0) (tVar 4)) (tCons (tVar 3) (tCons (tVar 4) (tCons (tVar 1) (tCons (tVar 6) tNil)))))) [6]) [some (.ref aB), some (.int k'), some (.int (L : Int)), some (.ref R), some (.int (n : Int)), v, w'] H' ((List.range (L + 1)).map fun c => V.int (mw (fun i c => get2 (countB L k' (b.drop (n + 1))) (i - 1) c) k' c b[n])) :=
        el_mapR (n := L + 1) _ (ea_cons (ev_int (ev_add (ev_var rfl) ev_c) (by omega)) ea_nil) (by omega) (fun _ => rfl) fun c hc => by
          obtain ⟨r, hr, hix⟩ := (hB.mono e).ix (σ := [some (.ref aB), some (.int k'), some (.int (L : Int)), some (.ref R), some (.int (n : Int)), v, some (.int (c : Int))]) (ta := tVar 0) (tb := tVar 4) hg
          rw [← hmw c]
          exact ev_call (ea_cons (hix (Ex.refl _) (ev_var rfl) (ev_var rfl)) (ea_cons (ev_var rfl) (ea_cons (ev_var rfl) (ea_cons (ev_var rfl) (ea_cons (ev_var rfl) ea_nil))))) fun H3 e3 Q' q _ => ⟨r, b[n], R, rows, rs, n, k', c, L + 1, rfl, hr.mono e3, sq_of (e3 _ _ h2), h3.mono e3, fun x hx => by rw [hrl]; exact (hfit x hx).2, heach, hc, q⟩
      refine hel H' (Ex.refl H') _ fun p H3 hp e3 hp3 => ?_
      have pn : p ≠ R := fun z => by
        rw [z, h2] at hp
        cases hp
      refine (ev_var rfl : Ev (tVar 3) [some (.ref aB), some (.int k'), some (.int (L : Int)), some (.ref R), some (.int (n : Int)), v, w'] H3 (.ref R)) H3 (Ex.refl H3) _ fun H4 e4 => ?_
      refine (ev_var rfl : Ev (tVar 4) [some (.ref aB), some (.int k'), some (.int (L : Int)), some (.ref R), some (.int (n : Int)), v, w'] H4 (.int (n : Int))) H4 (Ex.refl H4) _ fun H5 e5 => ?_
      have hR5 := e5 _ _ (e4 _ _ (e3 _ _ h2))
      refine ⟨R, rows.map V.ref, (n : Int), n, rfl, rfl, hR5, ixN_nat (by rw [List.length_map, h3.length, hrl]; omega), ⟨rows.set n p, _, _, _, rfl, Ex.mut (((e.trans e3).trans e4).trans e5) hRH, ?_, ?_⟩⟩
      · rw [List.map_set]
        exact upd_same
      · have b5 : But R H5 (upd H5 R (.lst ((rows.map V.ref).set n (.ref p)))) := (But.refl _ H5).upd
        have h5 := ((h3.mono ((e3.trans e4).trans e5)).but b5)
        have z := set_midG n (0 :: List.replicate L (-1)) ((List.range (L + 1)).map fun c => mw (fun i c => get2 (countB L k' (b.drop (n + 1))) (i - 1) c) k' c b[n]) (countB L k' (b.drop (n + 1)))
        rw [← hrs] at z
        rw [countB_cons hg (by omega), ← z]
        refine paired_set h5 ⟨pn, sq_of ?_⟩
        rw [upd_ne pn]
        have := e5 _ _ (e4 _ _ hp3)
        rw [this, List.map_map]
        rfl
    · rintro σ' H' ⟨rows, u, v, w', rfl, e, h2, h3⟩
      rw [Nat.sub_self] at h3
      have h3 : NsAt K H' R rows (countB L k' b) := h3
      have hlen := h3.length
      rw [countB_len] at hlen
      have hr0 : rows[0]? = some rows[0] := List.getElem?_eq_getElem (by omega)
      have hc0 : (countB L k' b)[0]? = some ((countB L k' b).headD []) := by
        cases hz : countB L k' b with
        | nil =>
          have := countB_len L k' b
          rw [hz, List.length_nil] at this
          omega
        | cons a r => rfl
      refine s_ret (ev_ixL (ev_var rfl) ev_c (sq_of h2) (at_ref (n := 0) rfl hr0)) fun H3 e3 => k _ H3 (e.trans e3) (ex_l e3 (paired_get2 h3 hr0 hc0).2)
theorem ok_most_by_logs (T : Txt K mg) : Good P w K mg base ("most_by_logs", none) 2 ["board", "k"] (sp_most_by_logs K) :=
  good_mk (d := d_most_by_logs) T 71 rfl rfl rfl sc_most_by_logs (fun vs H Q E h => len_most_by_logs h) (fun _ _ _ _ _ _ us hl => match us, hl with | [_, _], _ => rfl) (fun cdv A outer s H E hr => w_most_by_logs T cdv A outer s H E hr) (fun vs H Q E h => pure_most_by_logs T h)
end
end Sb
end
section
set_option maxHeartbeats 4000000
namespace Sb
open PySem PySem.Spec PySem.Calls PyProof.Rows L2 Evl
open TimBuck (Stem Product Piece diameterIn Log)
/-! ## what stays while one object is changed -/
structure Keep (K : PySem.W.Frag) (H H' : Hp) (a : Addr) : Prop where
  but : But a H H'
  tup : ∀ t xs, SqT K H t xs → SqT K H' t xs
section
variable {K : PySem.W.Frag} {H H' H0 : Hp} {a : Addr}
theorem Keep.lst {zs : List V} (h : H a = some (.lst zs)) (b : But a H H') : Keep K H H' a := ⟨b, fun _ _ z => sqT_but h z b⟩
theorem Keep.ins {C dx : Addr} {fs : List (Str × V)} (h : H a = some (.ins C dx fs)) (b : But a H H') : Keep K H H' a := ⟨b, fun t xs z => by
  rcases z with (z | ⟨o, z⟩) | z
  · exact .inl (.inl (b _ _ (ne_of z h (by intro z; cases z)) z))
  · exact .inl (.inr ⟨o, b _ _ (ne_of z h (by intro z; cases z)) z⟩)
  · exact .inr z⟩
theorem Keep.tups (k : Keep K H H' a) {ts : List Addr} {ks : List (List Int)} (h : Tups K H ts ks) : Tups K H' ts ks := Paired.mapP h fun _ _ z => k.tup _ _ z
theorem StemAt.keep {A : StA} {s : Stem} (h : StemAt K H A s) (k : Keep K H H' a) (n : a ≠ A.s) (m : a ∉ A.lists) : StemAt K H' A s := by
  unfold StA.lists at m
  simp only [List.mem_cons, List.not_mem_nil, or_false, not_or] at m
  obtain ⟨m1, m2, m3, m4, m5, m6⟩ := m
  exact ⟨k.but _ _ (Ne.symm n) h.ins, k.but _ _ (Ne.symm m1) h.pts, k.tups h.ptT, k.but _ _ (Ne.symm m2) h.wid, k.but _ _ (Ne.symm m3) h.gra, k.but _ _ (Ne.symm m4) h.rot, k.but _ _ (Ne.symm m5) h.cro, k.tups h.crT, k.but _ _ (Ne.symm m6) h.pie, k.tups h.piT, h.nd, h.ok⟩
theorem ProdAt.keep {A : PrA} {p : Product} (h : ProdAt K H A p) (k : Keep K H H' a) (n : a ≠ A.p) (m : a ≠ A.aQ) : ProdAt K H' A p := ⟨k.but _ _ (Ne.symm n) h.ins, k.but _ _ (Ne.symm m) h.pri, k.tups h.prT, h.ok⟩
theorem paired_of_get {α β : Type} {F : α → β → Prop} : ∀ {l : List α} {m : List β}, l.length = m.length → (∀ (i : Nat) x y, l[i]? = some x → m[i]? = some y → F x y) → Paired F l m
  | [], [], _, _ => .nil
  | [], _ :: _, h, _ => by simp at h
  | _ :: _, [], h, _ => by simp at h
  | x :: l, y :: m, h, g => .cons (g 0 x y rfl rfl) (paired_of_get (by simpa using h) fun i x y h1 h2 => g (i + 1) x y h1 h2)
theorem prods_mk {pl : Addr} {pr : List (Option PrA)} {ps : TimBuck.Products} (h : H pl = some (.lst (pr.map prV))) (hl : ps.length = 8) (hl2 : pr.length = 8) (g : ∀ (i : Nat) B p, pr[i]? = some B → ps[i]? = some p → PrIs K H B p) : ProdsAt K H pl pr ps :=
  ⟨h, Paired.mapP (paired_of_get (F := PrIs K H) (by rw [hl, hl2]) g) fun B p z => by
    revert z
    cases B <;> cases p <;> exact id, hl⟩
theorem PrIs.keep {B : Option PrA} {p : Option Product} (h : PrIs K H B p) (k : Keep K H H' a) (n : ∀ C, B = some C → a ≠ C.p ∧ a ≠ C.aQ) : PrIs K H' B p := by
  cases B with
  | none => cases p <;> exact h
  | some C =>
    cases p with
    | none => exact h
    | some p => exact ProdAt.keep h k (n C rfl).1 (n C rfl).2
/-! ## frames -/
def DkA.all (A : DkA) : List Addr := A.d :: (A.lists ++ A.insts)
/-- what a deed may change, and where the desk's objects come from -/
structure Fr (A A' : DkA) (H H' : Hp) : Prop where
  d : A'.d = A.d
  old : ∀ a o, a ∉ A.all → H a = some o → H' a = some o
  new : ∀ a, a ∈ A'.all → a ∈ A.all ∨ H a = none
  dom : ∀ a, H' a = none → H a = none
theorem Fr.of_ex {A : DkA} (e : Ex H H') : Fr A A H H' := ⟨rfl, fun a o _ h => e a o h, fun _ h => .inl h, fun a h => fresh_back e h⟩
theorem Fr.ex {A A' : DkA} {H2 : Hp} (f : Fr A A' H H') (e : Ex H' H2) : Fr A A' H H2 := ⟨f.d, fun a o n h => e a o (f.old a o n h), f.new, fun a h => f.dom a (fresh_back e h)⟩
theorem Fr.pre {A A' : DkA} (e : Ex H0 H) (f : Fr A A' H H') : Fr A A' H0 H' := ⟨f.d, fun a o n h => f.old a o n (e a o h), fun a h => (f.new a h).imp id (fresh_back e), fun a h => fresh_back e (f.dom a h)⟩
theorem dom_of {b : But a H H'} (ha : H' a ≠ none) (c : Addr) (hc : H' c = none) : H c = none := by
  cases hz : H c with
  | none => rfl
  | some o =>
    by_cases e : c = a
    · subst e
      exact absurd hc ha
    · rw [b c o e hz] at hc
      cases hc
theorem StemAt.list_some {A : StA} {s : Stem} (h : StemAt K H A s) {c : Addr} (hc : c ∈ A.lists) : ∃ zs, H c = some (.lst zs) := by
  unfold StA.lists at hc
  simp only [List.mem_cons, List.not_mem_nil, or_false] at hc
  rcases hc with rfl | rfl | rfl | rfl | rfl | rfl
  · exact ⟨_, h.pts⟩
  · exact ⟨_, h.wid⟩
  · exact ⟨_, h.gra⟩
  · exact ⟨_, h.rot⟩
  · exact ⟨_, h.cro⟩
  · exact ⟨_, h.pie⟩
theorem DkA.lists_eq (A : DkA) : A.lists = A.pl :: ((match A.st with
  | some a => a.lists
  | none => []) ++ A.pr.filterMap fun a => a.map fun a => a.aQ) := rfl
theorem mem_aQ {A : DkA} {j : Nat} {B : PrA} (h : A.pr[j]? = some (some B)) : B.aQ ∈ A.pr.filterMap fun a => a.map fun a => a.aQ := List.mem_filterMap.mpr ⟨_, List.mem_of_getElem? h, rfl⟩
theorem mem_p {A : DkA} {j : Nat} {B : PrA} (h : A.pr[j]? = some (some B)) : B.p ∈ A.insts := List.mem_filterMap.mpr ⟨_, List.mem_of_getElem? h, rfl⟩
theorem DeskAt.pr_get {A : DkA} {S : Wrtibu.State} (h : DeskAt K H A S) {j : Nat} {B : PrA} (hj : A.pr[j]? = some (some B)) : ∃ p, S.products[j]? = some (some p) ∧ ProdAt K H B p := by
  have hl := h.pro.all.length
  have hi := (List.getElem?_eq_some_iff.mp hj).1
  have e : S.products[j]? = some S.products[j] := List.getElem?_eq_getElem (by omega)
  obtain ⟨B', h1, h2⟩ := h.pro.get e
  rw [hj] at h1
  cases h1
  revert h2
  cases hz : S.products[j] with
  | none => exact fun z => absurd z id
  | some p =>
    intro h2
    rw [hz] at e
    exact ⟨p, e, h2⟩
theorem DeskAt.st_some {A : DkA} {S : Wrtibu.State} (h : DeskAt K H A S) {s : Stem} (hs : S.stem = some s) : ∃ B, A.st = some B ∧ StemAt K H B s := by
  have z := h.st
  rw [hs] at z
  cases hA : A.st with
  | none =>
    rw [hA] at z
    exact absurd z id
  | some B =>
    rw [hA] at z
    exact ⟨B, rfl, z⟩
theorem DeskAt.st_none {A : DkA} {S : Wrtibu.State} (h : DeskAt K H A S) (hs : S.stem = none) : A.st = none := by
  have z := h.st
  rw [hs] at z
  cases hA : A.st with
  | none => rfl
  | some B =>
    rw [hA] at z
    exact absurd z id
/-- one of the stem's lists changed -/
theorem DeskAt.stem_step {A : DkA} {S : Wrtibu.State} {B B' : StA} {s' : Stem} {zs : List V} (h : DeskAt K H A S) (hA : A.st = some B) (hz : H a = some (.lst zs)) (b : But a H H') (ha : a ∈ B.lists) (hB : B'.lists = B.lists) (hs : B'.s = B.s) (h' : StemAt K H' B' s') :
    DeskAt K H' { A with st := some B' } { S with stem := some s' } ∧ Fr A { A with st := some B' } H H' := by
  have kp : Keep K H H' a := Keep.lst hz b
  have nl := h.nl
  rw [DkA.lists_eq, hA] at nl
  obtain ⟨n1, n2⟩ := List.nodup_cons.mp nl
  have n3 := List.nodup_append.mp n2
  have hal : a ∈ A.lists := by
    rw [DkA.lists_eq, hA]
    exact List.mem_cons_of_mem _ (List.mem_append_left _ ha)
  have apl : a ≠ A.pl := fun z => n1 (by rw [← z]; exact List.mem_append_left _ ha)
  have hl : DkA.lists { A with st := some B' } = A.lists := by
    rw [DkA.lists_eq, DkA.lists_eq, hA]
    show A.pl :: (B'.lists ++ _) = _
    rw [hB]
  refine ⟨⟨?_, prods_mk (kp.but _ _ (Ne.symm apl) h.pro.lst) h.pro.len (by rw [h.pro.all.length, h.pro.len]) fun i C p hC hp => ?_, h', ?_, h.ni⟩, rfl, fun c o hc ho => b c o (fun z => hc (by
    rw [z]
    exact List.mem_cons_of_mem _ (List.mem_append_left _ hal))) ho, fun c hc => .inl ?_, dom_of (b := b) (by
      obtain ⟨zs, hz⟩ := h'.list_some (c := a) (by rw [hB]; exact ha)
      rw [hz]
      exact fun z => by cases z)⟩
  · have z := b _ _ (ne_of h.ins hz (by intro z; cases z)) h.ins
    have e : dkF A = dkF { A with st := some B' } := by
      unfold dkF
      rw [hA]
      show [(("stem" : Str), V.ref B.s), (("products" : Str), V.ref A.pl)] = [(("stem" : Str), V.ref B'.s), (("products" : Str), V.ref A.pl)]
      rw [hs]
    rw [e] at z
    exact z
  · obtain ⟨C', h1, h2⟩ := h.pro.get hp
    rw [hC] at h1
    cases h1
    refine h2.keep kp fun D hD => ?_
    subst hD
    obtain ⟨p', _, hPA⟩ := h.pr_get hC
    exact ⟨Ne.symm (ne_of hPA.ins hz (by intro z; cases z)), fun z => n3.2.2 _ ha _ (mem_aQ hC) z⟩
  · rw [hl]
    exact h.nl
  · unfold DkA.all at hc ⊢
    rw [hl] at hc
    exact hc
/-! ## lists of optional things -/
theorem fm_set_mem {α β : Type} {f : α → Option β} {x : α} {v : β} : ∀ {l : List α} {k : Nat}, v ∈ (l.set k x).filterMap f → v ∈ l.filterMap f ∨ f x = some v
  | [], k, h => by cases h
  | y :: l, 0, h => by
    rw [List.set_cons_zero] at h
    obtain ⟨z, hz, e⟩ := List.mem_filterMap.mp h
    rcases List.mem_cons.mp hz with rfl | hz
    · exact .inr e
    · exact .inl (List.mem_filterMap.mpr ⟨z, List.mem_cons_of_mem _ hz, e⟩)
  | y :: l, k + 1, h => by
    rw [List.set_cons_succ] at h
    obtain ⟨z, hz, e⟩ := List.mem_filterMap.mp h
    rcases List.mem_cons.mp hz with rfl | hz
    · exact .inl (List.mem_filterMap.mpr ⟨z, List.mem_cons_self .., e⟩)
    · rcases fm_set_mem (l := l) (k := k) (x := x) (f := f) (List.mem_filterMap.mpr ⟨z, hz, e⟩) with h | h
      · obtain ⟨z', hz', e'⟩ := List.mem_filterMap.mp h
        exact .inl (List.mem_filterMap.mpr ⟨z', List.mem_cons_of_mem _ hz', e'⟩)
      · exact .inr h
theorem fm_set_nodup {α β : Type} {f : α → Option β} {x : α} : ∀ {l : List α} {k : Nat}, (l.filterMap f).Nodup → (∀ v, f x = some v → v ∉ l.filterMap f) → ((l.set k x).filterMap f).Nodup
  | [], k, h, _ => h
  | y :: l, 0, h, g => by
    rw [List.set_cons_zero, List.filterMap_cons]
    have hl : (l.filterMap f).Nodup := by
      rw [List.filterMap_cons] at h
      split at h
      · exact h
      · exact (List.nodup_cons.mp h).2
    cases hx : f x with
    | none => exact hl
    | some v =>
      refine List.nodup_cons.mpr ⟨fun z => g v hx ?_, hl⟩
      obtain ⟨w, hw, e⟩ := List.mem_filterMap.mp z
      exact List.mem_filterMap.mpr ⟨w, List.mem_cons_of_mem _ hw, e⟩
  | y :: l, k + 1, h, g => by
    rw [List.set_cons_succ, List.filterMap_cons]
    have gl : ∀ v, f x = some v → v ∉ l.filterMap f := fun v hv z => g v hv (by
      obtain ⟨w, hw, e⟩ := List.mem_filterMap.mp z
      exact List.mem_filterMap.mpr ⟨w, List.mem_cons_of_mem _ hw, e⟩)
    rw [List.filterMap_cons] at h
    cases hy : f y with
    | none =>
      rw [hy] at h
      exact fm_set_nodup h gl
    | some v =>
      rw [hy] at h
      obtain ⟨h1, h2⟩ := List.nodup_cons.mp h
      refine List.nodup_cons.mpr ⟨fun z => ?_, fm_set_nodup h2 gl⟩
      rcases fm_set_mem z with z | z
      · exact h1 z
      · exact g v z (List.mem_filterMap.mpr ⟨y, List.mem_cons_self .., hy⟩)
theorem fm_set_same {α β : Type} {f : α → Option β} {x y : α} (e : f x = f y) : ∀ {l : List α} {k : Nat}, l[k]? = some y → (l.set k x).filterMap f = l.filterMap f
  | [], k, h => by simp at h
  | z :: l, 0, h => by
    cases h
    rw [List.set_cons_zero, List.filterMap_cons, List.filterMap_cons, e]
  | z :: l, k + 1, h => by
    rw [List.set_cons_succ, List.filterMap_cons, List.filterMap_cons, fm_set_same e (l := l) (k := k) h]
theorem set_same {α : Type} {x : α} : ∀ {l : List α} {k : Nat}, l[k]? = some x → l.set k x = l
  | [], k, h => by simp at h
  | z :: l, 0, h => by
    cases h
    rfl
  | z :: l, k + 1, h => by
    rw [List.set_cons_succ, set_same (l := l) (k := k) h]
/-- one product's place changed: a is what was changed -/
theorem DeskAt.prod_step {A : DkA} {S : Wrtibu.State} {k : Nat} {o : Option PrA} {p : Option Product} (h : DeskAt K H A S) (e0 : Ex H0 H) (kp : Keep K H H' a) (ha : a ∈ A.all) (hk : k < 8) (nd : a ≠ A.d) (ns : ∀ B, A.st = some B → a ≠ B.s ∧ a ∉ B.lists) (nj : ∀ j B, j ≠ k → A.pr[j]? = some (some B) → a ≠ B.p ∧ a ≠ B.aQ)
    (hpl : H' A.pl = some (.lst ((A.pr.set k o).map prV))) (ho : PrIs K H' o p) (hq : ∀ B, o = some B → H0 B.aQ = none ∧ B.aQ ∉ A.lists) (hi : ((A.pr.set k o).filterMap fun a => a.map fun a => a.p).Nodup) (hi2 : ∀ B, o = some B → B.p ∈ A.insts ∨ H0 B.p = none) (hda : H' a ≠ none) :
    DeskAt K H' { A with pr := A.pr.set k o } { S with products := S.products.set k p } ∧ Fr A { A with pr := A.pr.set k o } H0 H' := by
  have l8 : A.pr.length = 8 := by rw [h.pro.all.length, h.pro.len]
  refine ⟨⟨?_, prods_mk hpl (by rw [List.length_set, h.pro.len]) (by rw [List.length_set, l8]) fun i C q hC hq' => ?_, ?_, ?_, hi⟩, rfl, fun c u hc hu => kp.but c u (fun z => hc (by rw [z]; exact ha)) (e0 c u hu), fun c hc => ?_, fun c hc => fresh_back e0 (dom_of (b := kp.but) hda c hc)⟩
  · exact kp.but _ _ (Ne.symm nd) h.ins
  · by_cases c : i = k
    · subst c
      rw [List.getElem?_set_self (by omega)] at hC
      rw [List.getElem?_set_self (by rw [h.pro.len]; omega)] at hq'
      cases hC
      cases hq'
      exact ho
    · rw [List.getElem?_set_ne (Ne.symm c)] at hC
      rw [List.getElem?_set_ne (Ne.symm c)] at hq'
      obtain ⟨C', h1, h2⟩ := h.pro.get hq'
      rw [hC] at h1
      cases h1
      exact h2.keep kp fun D hD => nj i D c (by rw [hC, hD])
  · show StOpt K H' A.st S.stem
    have z := h.st
    cases hA : A.st with
    | none =>
      rw [hA] at z
      cases hS : S.stem with
      | none => trivial
      | some s =>
        rw [hS] at z
        exact z
    | some B =>
      rw [hA] at z
      cases hS : S.stem with
      | none =>
        rw [hS] at z
        exact z
      | some s =>
        rw [hS] at z
        exact StemAt.keep z kp (ns B hA).1 (ns B hA).2
  · have nl := h.nl
    rw [DkA.lists_eq] at nl ⊢
    obtain ⟨n1, n2⟩ := List.nodup_cons.mp nl
    obtain ⟨n3, n4, n5⟩ := List.nodup_append.mp n2
    have hf : ∀ v, (o.map fun a => a.aQ) = some v → v ∉ A.lists := fun v hv => by
      cases o with
      | none => cases hv
      | some B =>
        cases hv
        exact (hq B rfl).2
    have hm : ∀ v, v ∈ (A.pr.set k o).filterMap (fun a => a.map fun a => a.aQ) → v ∈ (A.pr.filterMap fun a => a.map fun a => a.aQ) ∨ v ∉ A.lists := fun v hv => (fm_set_mem hv).imp id (hf v)
    refine List.nodup_cons.mpr ⟨fun z => ?_, List.nodup_append.mpr ⟨n3, fm_set_nodup n4 fun v hv z => hf v hv ?_, fun x hx y hy e => ?_⟩⟩
    · rcases List.mem_append.mp z with z | z
      · exact n1 (List.mem_append_left _ z)
      · rcases hm _ z with z | z
        · exact n1 (List.mem_append_right _ z)
        · exact z (by rw [DkA.lists_eq]; exact List.mem_cons_self ..)
    · rw [DkA.lists_eq]
      exact List.mem_cons_of_mem _ (List.mem_append_right _ z)
    · subst e
      rcases hm _ hy with z | z
      · exact n5 x hx x z rfl
      · exact z (by
          rw [DkA.lists_eq]
          exact List.mem_cons_of_mem _ (List.mem_append_left _ hx))
  · unfold DkA.all at hc ⊢
    rcases List.mem_cons.mp hc with rfl | hc
    · exact .inl (List.mem_cons_self ..)
    · rcases List.mem_append.mp hc with hc | hc
      · rw [DkA.lists_eq] at hc
        rcases List.mem_cons.mp hc with hc | hc
        · rw [hc]
          exact .inl (List.mem_cons_of_mem _ (List.mem_append_left _ (by rw [DkA.lists_eq]; exact List.mem_cons_self ..)))
        · rcases List.mem_append.mp hc with hc | hc
          · exact .inl (List.mem_cons_of_mem _ (List.mem_append_left _ (by rw [DkA.lists_eq]; exact List.mem_cons_of_mem _ (List.mem_append_left _ hc))))
          · rcases fm_set_mem hc with hc | hc
            · exact .inl (List.mem_cons_of_mem _ (List.mem_append_left _ (by rw [DkA.lists_eq]; exact List.mem_cons_of_mem _ (List.mem_append_right _ hc))))
            · cases o with
              | none => cases hc
              | some B =>
                cases hc
                exact .inr (hq B rfl).1
      · rcases fm_set_mem (show c ∈ (A.pr.set k o).filterMap fun a => a.map fun a => a.p from hc) with hc | hc
        · exact .inl (List.mem_cons_of_mem _ (List.mem_append_right _ hc))
        · cases o with
          | none => cases hc
          | some B =>
            cases hc
            rcases hi2 B rfl with z | z
            · exact .inl (List.mem_cons_of_mem _ (List.mem_append_right _ z))
            · exact .inr z
end
end Sb
end
section
set_option maxHeartbeats 4000000
namespace Sb
open PySem PySem.Spec PySem.Calls PyProof.Rows L2 Evl
open TimBuck (Stem Product Piece diameterIn Log)
section
variable {K : PySem.W.Frag} {H H' H0 : Hp} {σ : L2.St}
theorem DeskAt.stem_at {A : DkA} {S : Wrtibu.State} (h : DeskAt K H A S) {B : StA} (hB : A.st = some B) : ∃ s, S.stem = some s ∧ StemAt K H B s := by
  have z := h.st
  rw [hB] at z
  cases hS : S.stem with
  | none =>
    rw [hS] at z
    exact absurd z id
  | some s =>
    rw [hS] at z
    exact ⟨s, rfl, z⟩
theorem DeskAt.list_some {A : DkA} {S : Wrtibu.State} (h : DeskAt K H A S) {c : Addr} (hc : c ∈ A.lists) : ∃ zs, H c = some (.lst zs) := by
  rw [DkA.lists_eq] at hc
  rcases List.mem_cons.mp hc with rfl | hc
  · exact ⟨_, h.pro.lst⟩
  · rcases List.mem_append.mp hc with hc | hc
    · cases hB : A.st with
      | none =>
        rw [hB] at hc
        cases hc
      | some B =>
        rw [hB] at hc
        obtain ⟨s, _, hs⟩ := h.stem_at hB
        exact hs.list_some hc
    · obtain ⟨o, ho, e⟩ := List.mem_filterMap.mp hc
      cases o with
      | none => cases e
      | some B =>
        cases e
        obtain ⟨j, hj⟩ := List.getElem?_of_mem ho
        obtain ⟨p, _, hp⟩ := h.pr_get hj
        exact ⟨_, hp.pri⟩
theorem DeskAt.inst_some {A : DkA} {S : Wrtibu.State} (h : DeskAt K H A S) {c : Addr} (hc : c ∈ A.insts) : ∃ C dx fs, H c = some (.ins C dx fs) := by
  obtain ⟨o, ho, e⟩ := List.mem_filterMap.mp hc
  cases o with
  | none => cases e
  | some B =>
    cases e
    obtain ⟨j, hj⟩ := List.getElem?_of_mem ho
    obtain ⟨p, _, hp⟩ := h.pr_get hj
    exact ⟨_, _, _, hp.ins⟩
theorem DeskAt.not_list {A : DkA} {S : Wrtibu.State} (h : DeskAt K H A S) {c : Addr} (hc : H c = none) : c ∉ A.lists := fun z => by
  obtain ⟨zs, e⟩ := h.list_some z
  rw [hc] at e
  cases e
theorem DeskAt.not_inst {A : DkA} {S : Wrtibu.State} (h : DeskAt K H A S) {c : Addr} (hc : H c = none) : c ∉ A.insts := fun z => by
  obtain ⟨_, _, _, e⟩ := h.inst_some z
  rw [hc] at e
  cases e
theorem DeskAt.not_all {A : DkA} {S : Wrtibu.State} (h : DeskAt K H A S) {c : Addr} (hc : H c = none) : c ∉ A.all := fun z => by
  unfold DkA.all at z
  rcases List.mem_cons.mp z with rfl | z
  · rw [h.ins] at hc
    cases hc
  · rcases List.mem_append.mp z with z | z
    · exact h.not_list hc z
    · exact h.not_inst hc z
theorem dk_ne_pr {A : DkA} {p : Product} {q : Addr} {dx dx' : Addr} {C C' : Addr} : (HO.ins C dx (dkF A)) ≠ HO.ins C' dx' (prF p q) := fun z => by
  have e : dkF A = prF p q := by
    injection z
  have e2 := (Prod.mk.inj (List.cons.inj e).1).1
  exact absurd e2 (by decide +kernel)
theorem pr_ne_st {A : StA} {t : Nat} {p : Product} {q : Addr} {dx dx' : Addr} {C C' : Addr} : (HO.ins C dx (prF p q)) ≠ HO.ins C' dx' (stF A t) := fun z => by
  have e : prF p q = stF A t := by
    injection z
  have e2 := (Prod.mk.inj (List.cons.inj e).1).1
  exact absurd e2 (by decide +kernel)
theorem dk_ne_st {A : DkA} {B : StA} {t : Nat} {dx dx' : Addr} {C C' : Addr} : (HO.ins C dx (dkF A)) ≠ HO.ins C' dx' (stF B t) := fun z => by
  have e : dkF A = stF B t := by
    injection z
  have e2 := (Prod.mk.inj (List.cons.inj e).1).1
  exact absurd e2 (by decide +kernel)
theorem m_make {C : Addr} {sp : Sp} {t : TA} {us : List V} {Q : VK} {E : XK} (ht : EvA t σ H us) (k : ∀ x dx H1, Ex H H1 → H1 x = none → H1 dx = none → dx ≠ x → sp (.ref x :: us) (upd (upd H1 dx (.own x)) x (.ins C dx [])) (fun v H2 => v = .non ∧ Q (.ref x) H2) E) : tMake C sp [] E t σ H Q :=
  ht H (Ex.refl H) _ fun H1 e x dx h1 h2 h3 => by
    show sp (.ref x :: (us ++ [])) _ _ _
    rw [List.append_nil]
    exact k x dx H1 e h1 h2 h3
/-- o.m(..), a statement -/
theorem q_dropM {D : Ends} {tz : TS} {ta : TE} {t : TA} {C a dx : Addr} {fs : List (Str × V)} {m : Str} {sp : Sp} {E : XK} {us : List V} (h : Ev ta σ H (.ref a)) (ho : H a = some (.ins C dx fs)) (hm : fs.lookup m = none) (ht : EvA t σ H us) (k : ∀ H1, Ex H H1 → sp (.ref a :: us) H1 (fun _ H2 => tz D σ H2) E) : tSeq (tDrop (tMeth C m sp [] E ta t)) tz D σ H :=
  h H (Ex.refl H) _ fun H1 e1 => ⟨a, dx, fs, rfl, e1 _ _ ho, hm, ht H1 e1 _ fun H2 e2 => by
    show sp (.ref a :: (us ++ [])) H2 (fun _ H2 => tz D σ H2) E
    rw [List.append_nil]
    exact k H2 (e1.trans e2)⟩
theorem q_dropX {D : Ends} {tz : TS} {ta tb : TE} {C a dx : Addr} {fs : List (Str × V)} {m : Str} {sp : Sp} {E : XK} {X : Hp → V → Hp → Prop} (h : Ev ta σ H (.ref a)) (ho : H a = some (.ins C dx fs)) (hm : fs.lookup m = none) (ht : EvX tb σ H X) (mono : ∀ H1 H2 v H3, Ex H1 H2 → X H2 v H3 → X H1 v H3) (k : ∀ v H1, Ex H H1 → X H v H1 → sp [.ref a, v] H1 (fun _ H2 => tz D σ H2) E) : tSeq (tDrop (tMeth C m sp [] E ta (tCons tb tNil))) tz D σ H :=
  h H (Ex.refl H) _ fun H1 e1 => ⟨a, dx, fs, rfl, e1 _ _ ho, hm, ht H1 e1 _ fun v H2 e2 x => k v H2 (e1.trans e2) (mono _ _ _ _ e1 x)⟩
theorem ev_methD {ta : TE} {m : Str} {E' : XK} {A : DkA} {S : Wrtibu.State} {sp : Sp} {t : TA} {us : List V} {z : V} (h : Ev ta σ H (.ref A.d)) (hs : DeskAt K H A S) (hm : (dkF A).lookup m = none) (ht : EvA t σ H us) (hc : SpV sp (.ref A.d :: us) H z) : Ev (tMeth (He.ga K "Desk") m sp [] E' ta t) σ H z := fun H1 e Q q =>
  h H1 e _ fun H2 e2 => ⟨A.d, A.dx, _, rfl, (hs.mono (e.trans e2)).ins, hm, ht H2 (e.trans e2) _ fun H3 e3 => by
    show sp (.ref A.d :: (us ++ [])) H3 Q E'
    rw [List.append_nil]
    exact hc H3 ((e.trans e2).trans e3) Q (fun H4 e4 => q H4 ((e2.trans e3).trans e4)) E'⟩
end
section
variable {P : Program} {w : World} {K : PySem.W.Frag} {mg : Str → Option Value} {base : Heap} {vs : List V} {H : Hp} {Q : VK} {E : XK}
def sp_Desk___init__ (K : PySem.W.Frag) : Sp := fun vs H Q _ => ∃ (x dx : Addr) (H0 : Hp), vs = [.ref x] ∧ H0 x = none ∧ Ex H0 H ∧ H x = some (.ins (He.ga K "Desk") dx []) ∧ ∀ (A : DkA) H', A.d = x → (∀ a ∈ A.all, H0 a = none) → DeskAt K H' A Wrtibu.start → Ex H0 H' → Q .non H'
theorem len_Desk___init__ (h : sp_Desk___init__ K vs H Q E) : vs.length = 1 := by
  obtain ⟨a, b, c, rfl, _⟩ := h
  rfl
abbrev NL_Desk___init__ : List Str := ["self"]
theorem sc_Desk___init__ : FnScope NL_Desk___init__ ["self"] (defScope s_Desk___init__) := ⟨rfl, rfl, rfl, by decide +kernel, rfl, by decide +kernel, by decide +kernel⟩
def t_Desk___init__ (K : PySem.W.Frag) : TS := (tSeq (sFld K (tVar 0) (tC .non) "stem")
    (sFld K (tVar 0) (tOp rRep (tLst (tCons (tC .non) tNil)) (tC (.int 8))) "products"))
theorem w_Desk___init__ (T : Txt K mg) (cdv : Value) (A : Around) (outer : List Env) (s : Shared) (H : Hp) (E : XK) (hr : Room 0 (A.deeper (envOfC "Desk.__init__" (defScope s_Desk___init__) s.heap.objs.size (He.fAd K ("Desk", some "__init__")) cdv))) :
    PSs (cxOf CX0 P w K mg base NL_Desk___init__ "Desk.__init__" (defScope s_Desk___init__) (He.fAd K ("Desk", some "__init__")) cdv A outer s H E).nox (defBody s_Desk___init__) (t_Desk___init__ K) := by
  exact (pss_cons (ps_fld (pv 0) (by exact pe_non) rfl)
    (pss_one (ps_fld (pv 0) (pe_op op_rep (pe_lst (pa_cons (by exact pe_non) pa_nil)) (by exact pe_int)) rfl)))
theorem fm_none {β : Type} {f : PrA → β} : ∀ n : Nat, ((List.replicate n (none : Option PrA)).filterMap fun a => a.map f) = []
  | 0 => rfl
  | n + 1 => by
    rw [List.replicate_succ, List.filterMap_cons]
    exact fm_none n
theorem pure_Desk___init__ (T : Txt K mg) (h : sp_Desk___init__ K vs H Q E) : t_Desk___init__ K { nx := fun _ H' => Q .non H', rt := Q } (start NL_Desk___init__ vs) H := by
  obtain ⟨x, dx, H0, rfl, hx0, e0, hx, k⟩ := h
  have cl := T.cls 134 rfl
  refine q_fld (fs' := [("stem", .non)]) ev_c (ev_var rfl) hx cl (T.noat 136 rfl) (by decide) rfl fun H1 e1 => ?_
  have E1 : Ex H0 H1 := e0.trans e1
  refine s_fldL (fs' := fun p => [("stem", .non), ("products", .ref p)]) (el_rep (n := 8) ev_c ev_c (by decide)) (ev_var rfl) upd_same cl (T.noat 137 rfl) (by show 1 < 1000; decide) (fun p => ((put_past (by decide +kernel)).trans rfl)) fun p H2 hp e2 h2 => ?_
  have pn : p ≠ x := fun z => by
    rw [z] at hp
    exact absurd (upd_same.symm.trans hp) (by intro z; cases z)
  have E2 := (E1.mut (p := x) (o := .ins (He.ga K "Desk") dx [("stem", V.non)]) hx0).trans e2
  have hp0 : H0 p = none := fresh_back (E1.mut hx0) hp
  have lists : DkA.lists ⟨x, dx, p, none, List.replicate 8 none⟩ = [p] := by
    rw [DkA.lists_eq]
    show p :: ([] ++ ((List.replicate 8 (none : Option PrA)).filterMap fun a => a.map fun a => a.aQ)) = _
    rw [fm_none]
    rfl
  have insts : DkA.insts ⟨x, dx, p, none, List.replicate 8 none⟩ = [] := by
    show ((List.replicate 8 (none : Option PrA)).filterMap fun a => a.map fun a => a.p) = _
    rw [fm_none]
  refine k ⟨x, dx, p, none, List.replicate 8 none⟩ _ rfl ?_ ⟨upd_same, prods_mk ?_ rfl rfl fun i B q hB hq => ?_, trivial, ?_, ?_⟩ (E2.mut hx0)
  · intro a ha
    unfold DkA.all at ha
    rw [lists, insts] at ha
    simp only [List.append_nil, List.mem_cons, List.not_mem_nil, or_false] at ha
    rcases ha with rfl | rfl
    · exact hx0
    · exact hp0
  · rw [upd_ne pn]
    exact h2
  · have h1 := (List.getElem?_eq_some_iff.mp hB).2
    have h2 := (List.getElem?_eq_some_iff.mp hq).2
    rw [List.getElem_replicate] at h1 
    have h3 : (none : Option Product) = q := by
      rw [← h2]
      exact (List.getElem_replicate ..).symm
    rw [← h1, ← h3]
    trivial
  · rw [lists]
    exact List.nodup_cons.mpr ⟨List.not_mem_nil, List.nodup_nil⟩
  · rw [insts]
    exact List.nodup_nil
theorem ok_Desk___init__ (T : Txt K mg) : Good P w K mg base ("Desk", some "__init__") 1 ["self"] (sp_Desk___init__ K) :=
  good_mk (d := d_Desk___init__) T 41 rfl rfl rfl sc_Desk___init__ (fun vs H Q E h => len_Desk___init__ h) (fun _ _ _ _ _ _ us hl => match us, hl with | [_], _ => rfl) (fun cdv A outer s H E hr => w_Desk___init__ T cdv A outer s H E hr) (fun vs H Q E h => pure_Desk___init__ T h)
/-! ## put_stem -/
def sp_Desk_put_stem (K : PySem.W.Frag) : Sp := fun vs H Q _ => ∃ (A : DkA) (S : Wrtibu.State) (aP : Addr) (ts : List Addr) (l : List (Nat × Nat)) (H0 : Hp), vs = [.ref A.d, .ref aP] ∧ DeskAt K H A S ∧ Ex H0 H ∧ H0 aP = none ∧ aP ∉ A.lists ∧ H aP = some (.lst (ts.map V.ref)) ∧ Tups K H ts (l.map encP) ∧ PtsOk l ∧
  ∀ A' H', DeskAt K H' A' { S with stem := some (newS l) } → Fr A A' H0 H' → Q .non H'
theorem len_Desk_put_stem (h : sp_Desk_put_stem K vs H Q E) : vs.length = 2 := by
  obtain ⟨a, b, c, d, e, f, rfl, _⟩ := h
  rfl
abbrev NL_Desk_put_stem : List Str := ["self", "points"]
theorem sc_Desk_put_stem : FnScope NL_Desk_put_stem ["self", "points"] (defScope s_Desk_put_stem) := ⟨rfl, rfl, rfl, by decide +kernel, rfl, by decide +kernel, by decide +kernel⟩
def t_Desk_put_stem (K : PySem.W.Frag) : TS := (sFld K (tVar 0) (tMake (He.ga K "Stem") (sp_Stem___init__ K) [] E0 (tCons (tVar 1) tNil)) "stem")
theorem w_Desk_put_stem (T : Txt K mg) (cdv : Value) (A : Around) (outer : List Env) (s : Shared) (H : Hp) (E : XK) (hr : Room 4 (A.deeper (envOfC "Desk.put_stem" (defScope s_Desk_put_stem) s.heap.objs.size (He.fAd K ("Desk", some "put_stem")) cdv))) :
    PSs (cxOf CX0 P w K mg base NL_Desk_put_stem "Desk.put_stem" (defScope s_Desk_put_stem) (He.fAd K ("Desk", some "put_stem")) cdv A outer s H E).nox (defBody s_Desk_put_stem) (t_Desk_put_stem K) := by
  exact (pss_one (ps_fld (pv 0) (pe_makeG (T.mkr 102 rfl) (ok_Stem___init__ T) (hr.mono (by decide)) rfl (T.glo 22 rfl) (pa_cons (pv 1) pa_nil)) rfl))
theorem pure_Desk_put_stem (T : Txt K mg) (h : sp_Desk_put_stem K vs H Q E) : t_Desk_put_stem K { nx := fun _ H' => Q .non H', rt := Q } (start NL_Desk_put_stem vs) H := by
  obtain ⟨A, S, aP, ts, l, H0, rfl, hA, e0, hP0, hPl, hP, hT, ok, k⟩ := h
  have cl := T.cls 134 rfl
  unfold t_Desk_put_stem sFld
  refine m_make (ea_cons (ev_var rfl) ea_nil) fun x dx H1 e1 hx hdx hne => ?_
  have hA1 := hA.mono e1
  have EJ : Ex H1 (upd (upd H1 dx (.own x)) x (.ins (He.ga K "Stem") dx [])) := (Ex.new hdx).trans (Ex.new (by rw [upd_ne (Ne.symm hne)]; exact hx))
  refine ⟨x, dx, aP, ts, l, H1, rfl, hx, EJ, upd_same, e1 _ _ hP, tups_ex e1 hT, ok, fun B H2 hBx hBP hn hS e2 => ⟨rfl, ?_⟩⟩
  obtain ⟨n1, n2, n3, n4, n5⟩ := hn
  have hA2 := hA1.mono e2
  refine ⟨.ref A.d, rfl, A.d, _, A.dx, dkF A, rfl, hA2.ins, cl, T.noat 136 rfl, by show 2 < 1000; decide, ?_⟩
  have put : putF "stem" (.ref x) (dkF A) = dkF { A with st := some B } := by
    unfold dkF
    rw [put_here]
    show [(("stem" : Str), V.ref x), (("products" : Str), V.ref A.pl)] = [(("stem" : Str), V.ref B.s), (("products" : Str), V.ref A.pl)]
    rw [hBx]
  rw [put]
  obtain ⟨fs, hfs⟩ : ∃ fs, fs = dkF { A with st := some B } := ⟨_, rfl⟩
  rw [← hfs]
  have b : But A.d H2 (upd H2 A.d (.ins (He.ga K "Desk") A.dx fs)) := (But.refl _ H2).upd
  have kp : Keep K H2 _ A.d := Keep.ins hA2.ins b
  have dl : ∀ {c zs}, H2 c = some (.lst zs) → c ≠ A.d := fun hc => ne_of hc hA2.ins (by intro z; cases z)
  have hlists : DkA.lists { A with st := some B } = A.pl :: (B.lists ++ A.pr.filterMap fun a => a.map fun a => a.aQ) := rfl
  have hBl : ∀ c ∈ B.lists, c = aP ∨ H1 c = none := fun c hc => by
    unfold StA.lists at hc
    simp only [List.mem_cons, List.not_mem_nil, or_false] at hc
    rcases hc with rfl | rfl | rfl | rfl | rfl | rfl
    · exact .inl hBP
    · exact .inr n1
    · exact .inr n2
    · exact .inr n3
    · exact .inr n4
    · exact .inr n5
  have hBn : ∀ c ∈ B.lists, c ∉ A.lists := fun c hc => by
    rcases hBl c hc with rfl | h
    · exact hPl
    · exact hA1.not_list h
  refine k { A with st := some B } _ ⟨?_, prods_mk (kp.but _ _ (dl hA2.pro.lst) hA2.pro.lst) hA2.pro.len (by rw [hA2.pro.all.length, hA2.pro.len]) fun i C p hC hp => ?_, hS.keep kp ?_ ?_, ?_, hA.ni⟩ ⟨rfl, fun a o ha ho => b a o (fun z => ha (by rw [z]; exact List.mem_cons_self ..)) (e2 _ _ (e1 _ _ (e0 _ _ ho))), fun a ha => ?_, fun c hc => fresh_back ((e0.trans e1).trans e2) (dom_of (b := b) (by rw [upd_same]; exact fun z => by cases z) c hc)⟩
  · rw [← hfs]
    exact upd_same
  · obtain ⟨C', h1, h2⟩ := hA2.pro.get hp
    rw [hC] at h1
    cases h1
    refine h2.keep kp fun D hD => ?_
    subst hD
    obtain ⟨p', _, hPA⟩ := hA2.pr_get hC
    exact ⟨ne_of hA2.ins hPA.ins dk_ne_pr, Ne.symm (dl hPA.pri)⟩
  · rw [hBx]
    exact Ne.symm (fun z => by
      rw [z, hA1.ins] at hx
      cases hx)
  · intro hc
    obtain ⟨zs, hz⟩ := hS.list_some hc
    exact dl hz rfl
  · rw [hlists]
    have nl := hA.nl
    rw [DkA.lists_eq] at nl
    obtain ⟨m1, m2⟩ := List.nodup_cons.mp nl
    obtain ⟨m3, m4, m5⟩ := List.nodup_append.mp m2
    refine List.nodup_cons.mpr ⟨fun z => ?_, List.nodup_append.mpr ⟨hS.nd, m4, fun c hc c' hc' e => hBn c hc ?_⟩⟩
    · rcases List.mem_append.mp z with z | z
      · exact hBn _ z (by rw [DkA.lists_eq]; exact List.mem_cons_self ..)
      · exact m1 (List.mem_append_right _ z)
    · rw [e, DkA.lists_eq]
      exact List.mem_cons_of_mem _ (List.mem_append_right _ hc')
  · unfold DkA.all at ha ⊢
    rcases List.mem_cons.mp ha with rfl | ha
    · exact .inl (List.mem_cons_self ..)
    · rcases List.mem_append.mp ha with ha | ha
      · rw [hlists] at ha
        rcases List.mem_cons.mp ha with ha | ha
        · rw [ha]
          exact .inl (List.mem_cons_of_mem _ (List.mem_append_left _ (by rw [DkA.lists_eq]; exact List.mem_cons_self ..)))
        · rcases List.mem_append.mp ha with ha | ha
          · rcases hBl a ha with rfl | h
            · exact .inr hP0
            · exact .inr (fresh_back (e0.trans e1) h)
          · exact .inl (List.mem_cons_of_mem _ (List.mem_append_left _ (by rw [DkA.lists_eq]; exact List.mem_cons_of_mem _ (List.mem_append_right _ ha))))
      · exact .inl (List.mem_cons_of_mem _ (List.mem_append_right _ ha))
theorem ok_Desk_put_stem (T : Txt K mg) : Good P w K mg base ("Desk", some "put_stem") 5 ["self", "points"] (sp_Desk_put_stem K) :=
  good_mk (d := d_Desk_put_stem) T 42 rfl rfl rfl sc_Desk_put_stem (fun vs H Q E h => len_Desk_put_stem h) (fun _ _ _ _ _ _ us hl => match us, hl with | [_, _], _ => rfl) (fun cdv A outer s H E hr => w_Desk_put_stem T cdv A outer s H E hr) (fun vs H Q E h => pure_Desk_put_stem T h)
/-! ## products -/
theorem DeskAt.pl_all {A : DkA} : A.pl ∈ A.all := List.mem_cons_of_mem _ (List.mem_append_left _ (by rw [DkA.lists_eq]; exact List.mem_cons_self ..))
/-- the products' list changed at k -/
theorem DeskAt.pl_step {A : DkA} {S : Wrtibu.State} {H0 : Hp} {k : Nat} {o : Option PrA} {p : Option Product} (h : DeskAt K H A S) (e0 : Ex H0 H) (hk : k < 8) (ho : PrIs K H o p) (hq : ∀ B, o = some B → H0 B.aQ = none ∧ B.aQ ∉ A.lists ∧ B.p ∉ A.insts ∧ H0 B.p = none) :
    DeskAt K (upd H A.pl (.lst ((A.pr.map prV).set k (prV o)))) { A with pr := A.pr.set k o } { S with products := S.products.set k p } ∧ Fr A { A with pr := A.pr.set k o } H0 (upd H A.pl (.lst ((A.pr.map prV).set k (prV o)))) := by
  have b : But A.pl H (upd H A.pl (.lst ((A.pr.map prV).set k (prV o)))) := (But.refl _ H).upd
  have kp : Keep K H _ A.pl := Keep.lst h.pro.lst b
  have nl := h.nl
  rw [DkA.lists_eq] at nl
  obtain ⟨n1, n2⟩ := List.nodup_cons.mp nl
  refine h.prod_step e0 kp DeskAt.pl_all hk (ne_of h.pro.lst h.ins (by intro z; cases z)) (fun B hB => ?_) (fun j B _ hB => ?_) (by rw [upd_same, List.map_set]) (ho.keep kp fun C hC => ?_) (fun B hB => ⟨(hq B hB).1, (hq B hB).2.1⟩) (fm_set_nodup h.ni fun v hv => ?_) (fun B hB => .inr (hq B hB).2.2.2) (by rw [upd_same]; exact fun z => by cases z)
  · obtain ⟨s, _, hs⟩ := h.stem_at hB
    refine ⟨ne_of h.pro.lst hs.ins (by intro z; cases z), fun z => n1 ?_⟩
    rw [hB]
    exact List.mem_append_left _ z
  · obtain ⟨p', _, hPA⟩ := h.pr_get hB
    exact ⟨ne_of h.pro.lst hPA.ins (by intro z; cases z), fun z => n1 (by rw [z]; exact List.mem_append_right _ (mem_aQ hB))⟩
  · subst hC
    obtain ⟨q1, q2, q3, q4⟩ := hq C rfl
    refine ⟨fun z => ?_, fun z => q2 (by rw [← z, DkA.lists_eq]; exact List.mem_cons_self ..)⟩
    cases p with
    | none => exact ho
    | some p =>
      have hPA : ProdAt K H C p := ho
      exact ne_of h.pro.lst hPA.ins (by intro z; cases z) z
  · cases o with
    | none => cases hv
    | some B =>
      cases hv
      exact (hq B rfl).2.2.1
def sp_Desk_put_product (K : PySem.W.Frag) : Sp := fun vs H Q _ => ∃ (A : DkA) (S : Wrtibu.State) (k : Nat) (aT : Addr) (p : Product) (H0 : Hp), vs = [.ref A.d, .int (k : Int), .ref aT] ∧ DeskAt K H A S ∧ Ex H0 H ∧ k < 8 ∧
  SqL K H aT (([(p.grade : Int), (p.least : Int), (p.most : Int), (p.step : Int), (p.top : Int), (p.butt : Int), (p.over : Int)] : List Int).map V.int) ∧ ProdOk p ∧ p.prices = [] ∧ ∀ A' H', DeskAt K H' A' { S with products := S.products.set k (some p) } → Fr A A' H0 H' → Q .non H'
theorem len_Desk_put_product (h : sp_Desk_put_product K vs H Q E) : vs.length = 3 := by
  obtain ⟨a, b, c, d, e, f, rfl, _⟩ := h
  rfl
abbrev NL_Desk_put_product : List Str := ["self", "k", "terms"]
theorem sc_Desk_put_product : FnScope NL_Desk_put_product ["self", "k", "terms"] (defScope s_Desk_put_product) := ⟨rfl, rfl, rfl, by decide +kernel, rfl, by decide +kernel, by decide +kernel⟩
def t_Desk_put_product (K : PySem.W.Frag) : TS := (tAsg (tMake (He.ga K "Product") (sp_Product___init__ K) [] E0 (tCons (tVar 2) tNil)) (gSub (tFld K (tVar 0) "products") (tVar 1) rSetL))
theorem w_Desk_put_product (T : Txt K mg) (cdv : Value) (A : Around) (outer : List Env) (s : Shared) (H : Hp) (E : XK) (hr : Room 2 (A.deeper (envOfC "Desk.put_product" (defScope s_Desk_put_product) s.heap.objs.size (He.fAd K ("Desk", some "put_product")) cdv))) :
    PSs (cxOf CX0 P w K mg base NL_Desk_put_product "Desk.put_product" (defScope s_Desk_put_product) (He.fAd K ("Desk", some "put_product")) cdv A outer s H E).nox (defBody s_Desk_put_product) (t_Desk_put_product K) := by
  exact (pss_one (ps_asg (pe_makeG (T.mkr 121 rfl) (ok_Product___init__ T) (hr.mono (by decide)) rfl (T.glo 23 rfl) (pa_cons (pv 2) pa_nil)) (pg_sub (pe_fld (pv 0) rfl) (pv 1) set_list)))
theorem pure_Desk_put_product (T : Txt K mg) (h : sp_Desk_put_product K vs H Q E) : t_Desk_put_product K { nx := fun _ H' => Q .non H', rt := Q } (start NL_Desk_put_product vs) H := by
  obtain ⟨A, S, k', aT, p, H0, rfl, hA, e0, hk, hT, ok, hp, k⟩ := h
  unfold t_Desk_put_product tAsg
  refine m_make (ea_cons (ev_var rfl) ea_nil) fun x dx H1 e1 hx hdx hne => ?_
  have hA1 := hA.mono e1
  have EJ : Ex H1 (upd (upd H1 dx (.own x)) x (.ins (He.ga K "Product") dx [])) := (Ex.new hdx).trans (Ex.new (by rw [upd_ne (Ne.symm hne)]; exact hx))
  refine ⟨x, dx, aT, p, H1, rfl, hx, EJ, upd_same, ex_l (e1.trans EJ) hT, ok, hp, fun B H2 hBx hq hB e2 => ⟨rfl, ?_⟩⟩
  have hA2 := hA1.mono e2
  refine evD_products T (ev_var (i := 0) (σ := start NL_Desk_put_product [.ref A.d, .int (k' : Int), .ref aT]) rfl) hA2 H2 (Ex.refl H2) _ fun H3 e3 => ⟨.int (k' : Int), rfl, ?_⟩
  have hA3 := hA2.mono e3
  have l8 : A.pr.length = 8 := by rw [hA.pro.all.length, hA.pro.len]
  refine ⟨A.pl, A.pr.map prV, (k' : Int), k', rfl, rfl, hA3.pro.lst, ixN_nat (by rw [List.length_map, l8]; exact hk), ?_⟩
  have e03 : Ex H0 H3 := ((e0.trans e1).trans e2).trans e3
  have z := hA3.pl_step (p := some p) (o := some B) e03 hk (hB.mono e3) fun B' hB' => by
    cases hB'
    refine ⟨fresh_back (e0.trans e1) hq, hA1.not_list hq, ?_, ?_⟩
    · rw [hBx]
      exact hA1.not_inst hx
    · rw [hBx]
      exact fresh_back (e0.trans e1) hx
  have eV : prV (some B) = V.ref x := by
    show V.ref B.p = _
    rw [hBx]
  rw [eV] at z
  exact k _ _ z.1 z.2
theorem ok_Desk_put_product (T : Txt K mg) : Good P w K mg base ("Desk", some "put_product") 3 ["self", "k", "terms"] (sp_Desk_put_product K) :=
  good_mk (d := d_Desk_put_product) T 43 rfl rfl rfl sc_Desk_put_product (fun vs H Q E h => len_Desk_put_product h) (fun _ _ _ _ _ _ us hl => match us, hl with | [_, _, _], _ => rfl) (fun cdv A outer s H E hr => w_Desk_put_product T cdv A outer s H E hr) (fun vs H Q E h => pure_Desk_put_product T h)
def sp_Desk_drop_product (K : PySem.W.Frag) : Sp := fun vs H Q _ => ∃ (A : DkA) (S : Wrtibu.State) (k : Nat), vs = [.ref A.d, .int (k : Int)] ∧ DeskAt K H A S ∧ k < 8 ∧ ∀ A' H', DeskAt K H' A' { S with products := S.products.set k none } → Fr A A' H H' → Q .non H'
theorem len_Desk_drop_product (h : sp_Desk_drop_product K vs H Q E) : vs.length = 2 := by
  obtain ⟨a, b, c, rfl, _⟩ := h
  rfl
abbrev NL_Desk_drop_product : List Str := ["self", "k"]
theorem sc_Desk_drop_product : FnScope NL_Desk_drop_product ["self", "k"] (defScope s_Desk_drop_product) := ⟨rfl, rfl, rfl, by decide +kernel, rfl, by decide +kernel, by decide +kernel⟩
def t_Desk_drop_product (K : PySem.W.Frag) : TS := (tAsg (tC .non) (gSub (tFld K (tVar 0) "products") (tVar 1) rSetL))
theorem w_Desk_drop_product (T : Txt K mg) (cdv : Value) (A : Around) (outer : List Env) (s : Shared) (H : Hp) (E : XK) (hr : Room 0 (A.deeper (envOfC "Desk.drop_product" (defScope s_Desk_drop_product) s.heap.objs.size (He.fAd K ("Desk", some "drop_product")) cdv))) :
    PSs (cxOf CX0 P w K mg base NL_Desk_drop_product "Desk.drop_product" (defScope s_Desk_drop_product) (He.fAd K ("Desk", some "drop_product")) cdv A outer s H E).nox (defBody s_Desk_drop_product) (t_Desk_drop_product K) := by
  exact (pss_one (ps_asg (by exact pe_non) (pg_sub (pe_fld (pv 0) rfl) (pv 1) set_list)))
theorem pure_Desk_drop_product (T : Txt K mg) (h : sp_Desk_drop_product K vs H Q E) : t_Desk_drop_product K { nx := fun _ H' => Q .non H', rt := Q } (start NL_Desk_drop_product vs) H := by
  obtain ⟨A, S, k', rfl, hA, hk, k⟩ := h
  have l8 : A.pr.length = 8 := by rw [hA.pro.all.length, hA.pro.len]
  refine s_setL (xs := A.pr.map prV) (j := k') hA.pro.lst ev_c (evD_products T (ev_var rfl) hA) (ev_var rfl) (by rw [List.length_map, l8]; exact hk) fun H1 e1 => ?_
  have z := (hA.mono e1).pl_step (p := none) (o := none) e1 hk trivial fun B' hB' => by cases hB'
  exact k _ _ z.1 z.2
theorem ok_Desk_drop_product (T : Txt K mg) : Good P w K mg base ("Desk", some "drop_product") 1 ["self", "k"] (sp_Desk_drop_product K) :=
  good_mk (d := d_Desk_drop_product) T 44 rfl rfl rfl sc_Desk_drop_product (fun vs H Q E h => len_Desk_drop_product h) (fun _ _ _ _ _ _ us hl => match us, hl with | [_, _], _ => rfl) (fun cdv A outer s H E hr => w_Desk_drop_product T cdv A outer s H E hr) (fun vs H Q E h => pure_Desk_drop_product T h)
/-! ## what is not there -/
theorem DeskAt.pr_at {A : DkA} {S : Wrtibu.State} (h : DeskAt K H A S) {k : Nat} (hk : k < 8) : ∃ B, A.pr[k]? = some B ∧ (B = none ↔ (S.products[k]?).join = none) := by
  have e : S.products[k]? = some (S.products[k]'(by rw [h.pro.len]; exact hk)) := List.getElem?_eq_getElem _
  obtain ⟨B, h1, h2⟩ := h.pro.get e
  refine ⟨B, h1, ?_⟩
  rw [e]
  revert h2
  cases B <;> cases S.products[k]'(by rw [h.pro.len]; exact hk) <;> intro h2
  · exact ⟨fun _ => rfl, fun _ => rfl⟩
  · exact absurd h2 id
  · exact absurd h2 id
  · exact ⟨fun z => (by cases z), fun z => (by cases z)⟩
theorem noneB {o : Option Product} {B : Option PrA} (h : B = none ↔ o = none) : decide (prV B = V.non) = o.isNone := by
  cases B <;> cases o
  · rfl
  · exact absurd (h.mp rfl) (by intro z; cases z)
  · exact absurd (h.mpr rfl) (by intro z; cases z)
  · rfl
theorem stemB {A : DkA} {S : Wrtibu.State} (h : StOpt K H A.st S.stem) : decide (stV A.st = V.non) = S.stem.isNone := by
  revert h
  cases A.st <;> cases S.stem <;> intro h
  · rfl
  · exact absurd h id
  · exact absurd h id
  · rfl
def sp_Desk_has_no_product (K : PySem.W.Frag) : Sp := fun vs H Q _ => ∃ (A : DkA) (S : Wrtibu.State) (k : Nat), vs = [.ref A.d, .int (k : Int)] ∧ DeskAt K H A S ∧ k < 8 ∧ ∀ H', Ex H H' → Q (.bl ((S.products[k]?).join).isNone) H'
theorem len_Desk_has_no_product (h : sp_Desk_has_no_product K vs H Q E) : vs.length = 2 := by
  obtain ⟨a, b, c, rfl, _⟩ := h
  rfl
abbrev NL_Desk_has_no_product : List Str := ["self", "k"]
theorem sc_Desk_has_no_product : FnScope NL_Desk_has_no_product ["self", "k"] (defScope s_Desk_has_no_product) := ⟨rfl, rfl, rfl, by decide +kernel, rfl, by decide +kernel, by decide +kernel⟩
def t_Desk_has_no_product (K : PySem.W.Frag) : TS := (tRet (tOp rIsN (tOp (rIxL K) (tFld K (tVar 0) "products") (tVar 1)) (tC .non)))
theorem w_Desk_has_no_product (T : Txt K mg) (cdv : Value) (A : Around) (outer : List Env) (s : Shared) (H : Hp) (E : XK) (hr : Room 0 (A.deeper (envOfC "Desk.has_no_product" (defScope s_Desk_has_no_product) s.heap.objs.size (He.fAd K ("Desk", some "has_no_product")) cdv))) :
    PSs (cxOf CX0 P w K mg base NL_Desk_has_no_product "Desk.has_no_product" (defScope s_Desk_has_no_product) (He.fAd K ("Desk", some "has_no_product")) cdv A outer s H E).nox (defBody s_Desk_has_no_product) (t_Desk_has_no_product K) := by
  exact (pss_one (ps_ret (pe_cmpR op_isN (pe_ix ix_list (pe_fld (pv 0) rfl) (pv 1) (fun _ _ => rfl)) (by exact pe_non) (nomark _))))
theorem pure_Desk_has_no_product (T : Txt K mg) (h : sp_Desk_has_no_product K vs H Q E) : t_Desk_has_no_product K { nx := fun _ H' => Q .non H', rt := Q } (start NL_Desk_has_no_product vs) H := by
  obtain ⟨A, S, k', rfl, hA, hk, k⟩ := h
  obtain ⟨B, hB, hn⟩ := hA.pr_at hk
  exact s_ret (ev_bl (ev_isN (ev_prod hA.pro (evD_products T (ev_var rfl) hA) (ev_var rfl) hB)) (noneB hn)) k
theorem ok_Desk_has_no_product (T : Txt K mg) : Good P w K mg base ("Desk", some "has_no_product") 1 ["self", "k"] (sp_Desk_has_no_product K) :=
  good_mk (d := d_Desk_has_no_product) T 45 rfl rfl rfl sc_Desk_has_no_product (fun vs H Q E h => len_Desk_has_no_product h) (fun _ _ _ _ _ _ us hl => match us, hl with | [_, _], _ => rfl) (fun cdv A outer s H E hr => w_Desk_has_no_product T cdv A outer s H E hr) (fun vs H Q E h => pure_Desk_has_no_product T h)
def sp_Desk_lacks (K : PySem.W.Frag) : Sp := fun vs H Q _ => ∃ (A : DkA) (S : Wrtibu.State) (k : Nat), vs = [.ref A.d, .int (k : Int)] ∧ DeskAt K H A S ∧ k < 8 ∧ ∀ H', Ex H H' → Q (.bl (S.stem.isNone || ((S.products[k]?).join).isNone)) H'
theorem len_Desk_lacks (h : sp_Desk_lacks K vs H Q E) : vs.length = 2 := by
  obtain ⟨a, b, c, rfl, _⟩ := h
  rfl
abbrev NL_Desk_lacks : List Str := ["self", "k"]
theorem sc_Desk_lacks : FnScope NL_Desk_lacks ["self", "k"] (defScope s_Desk_lacks) := ⟨rfl, rfl, rfl, by decide +kernel, rfl, by decide +kernel, by decide +kernel⟩
def t_Desk_lacks (K : PySem.W.Frag) : TS := (tRet (tOrV (tOp rIsN (tFld K (tVar 0) "stem") (tC .non)) (tOp rIsN (tOp (rIxL K) (tFld K (tVar 0) "products") (tVar 1)) (tC .non))))
theorem w_Desk_lacks (T : Txt K mg) (cdv : Value) (A : Around) (outer : List Env) (s : Shared) (H : Hp) (E : XK) (hr : Room 0 (A.deeper (envOfC "Desk.lacks" (defScope s_Desk_lacks) s.heap.objs.size (He.fAd K ("Desk", some "lacks")) cdv))) :
    PSs (cxOf CX0 P w K mg base NL_Desk_lacks "Desk.lacks" (defScope s_Desk_lacks) (He.fAd K ("Desk", some "lacks")) cdv A outer s H E).nox (defBody s_Desk_lacks) (t_Desk_lacks K) := by
  exact (pss_one (ps_ret (pe_or (pe_cmpR op_isN (pe_fld (pv 0) rfl) (by exact pe_non) (nomark _)) (pe_one (pe_cmpR op_isN (pe_ix ix_list (pe_fld (pv 0) rfl) (pv 1) (fun _ _ => rfl)) (by exact pe_non) (nomark _))))))
theorem pure_Desk_lacks (T : Txt K mg) (h : sp_Desk_lacks K vs H Q E) : t_Desk_lacks K { nx := fun _ H' => Q .non H', rt := Q } (start NL_Desk_lacks vs) H := by
  obtain ⟨A, S, k', rfl, hA, hk, k⟩ := h
  obtain ⟨B, hB, hn⟩ := hA.pr_at hk
  exact s_ret (ev_orV (ev_bl (ev_isN (evD_stem T (ev_var rfl) hA)) (stemB hA.st)) fun _ => ev_bl (ev_isN (ev_prod hA.pro (evD_products T (ev_var rfl) hA) (ev_var rfl) hB)) (noneB hn)) k
theorem ok_Desk_lacks (T : Txt K mg) : Good P w K mg base ("Desk", some "lacks") 1 ["self", "k"] (sp_Desk_lacks K) :=
  good_mk (d := d_Desk_lacks) T 46 rfl rfl rfl sc_Desk_lacks (fun vs H Q E h => len_Desk_lacks h) (fun _ _ _ _ _ _ us hl => match us, hl with | [_, _], _ => rfl) (fun cdv A outer s H E hr => w_Desk_lacks T cdv A outer s H E hr) (fun vs H Q E h => pure_Desk_lacks T h)
end
end Sb
end
section
set_option maxHeartbeats 4000000
namespace Sb
open PySem PySem.Spec PySem.Calls PyProof.Rows L2 Evl
open TimBuck (Stem Product Piece diameterIn Log)
/-- what follows of a deed: the desk then, the answer in a new list -/
def KD (K : PySem.W.Frag) (A : DkA) (S : Wrtibu.State) (c : Wrtibu.Call) (H : Hp) (Q : VK) : Prop := ∀ A' H' p, DeskAt K H' A' (Wrtibu.step S c).1 → Fr A A' H H' → H p = none → H' p = some (.lst ((Wrtibu.step S c).2.map V.int)) → Q (.ref p) H'
/-- a deed's promise: of n whole numbers and a row -/
def spDeed (K : PySem.W.Frag) (n : Nat) (mk : List Int → List Int → Wrtibu.Call) : Sp := fun vs H Q _ => ∃ (A : DkA) (S : Wrtibu.State) (aW : Addr) (ws : List Int) (aR : Addr) (rs : List Int), vs = [.ref A.d, .ref aW, .ref aR] ∧ DeskAt K H A S ∧ SqL K H aW (ws.map V.int) ∧ SqL K H aR (rs.map V.int) ∧ ws.length = n ∧ rs.length ≤ 1000 ∧ KD K A S (mk ws rs) H Q
section
variable {K : PySem.W.Frag} {H : Hp} {Q : VK} {E : XK} {vs : List V}
theorem spDeed_len {n : Nat} {mk : List Int → List Int → Wrtibu.Call} (h : spDeed K n mk vs H Q E) : vs.length = 3 := by
  obtain ⟨a, b, c, d, e, f, rfl, _⟩ := h
  rfl
variable {A : DkA} {S : Wrtibu.State} {c : Wrtibu.Call}
theorem KD.fin (k : KD K A S c H Q) {A' : DkA} {S' : Wrtibu.State} {out : List Int} {H' : Hp} {p : Addr} (hs : Wrtibu.step S c = (S', out)) (hA : DeskAt K H' A' S') (f : Fr A A' H H') (hp : H p = none) (h : H' p = some (.lst (out.map V.int))) : Q (.ref p) H' := by
  refine k A' H' p ?_ f hp ?_
  · rw [hs]
    exact hA
  · rw [hs]
    exact h
theorem KD.same (k : KD K A S c H Q) (hA : DeskAt K H A S) {out : List Int} {H1 H' : Hp} {p : Addr} (hs : Wrtibu.step S c = (S, out)) (e : Ex H H1) (hp : H1 p = none) (e2 : Ex H1 H') (h : H' p = some (.lst (out.map V.int))) : Q (.ref p) H' :=
  k.fin hs (hA.mono (e.trans e2)) (Fr.of_ex (e.trans e2)) (fresh_back e hp) h
theorem KD.ret {D : Ends} {σ : L2.St} {te : TE} {xs : List V} (k : KD K A S c H Q) (hA : DeskAt K H A S) {out : List Int} {H1 : Hp} (h : EvL te σ H1 xs) (hs : Wrtibu.step S c = (S, out)) (hx : xs = out.map V.int) (e : Ex H H1) (hD : D.rt = Q) : tRet te D σ H1 := by
  subst hx
  refine s_retL h fun p H2 hp e2 h2 => ?_
  rw [hD]
  exact k.same hA hs e hp e2 h2
theorem KD.ret1 {D : Ends} {σ : L2.St} (k : KD K A S c H Q) (hA : DeskAt K H A S) {n : Int} {H1 : Hp} (hs : Wrtibu.step S c = (S, [n])) (e : Ex H H1) (hD : D.rt = Q) : tRet (tLst (tCons (tC (.int n)) tNil)) D σ H1 :=
  k.ret hA (el_lst (ea_cons ev_c ea_nil) (by show 1 ≤ 100000; decide)) hs rfl e hD
/-- a change is told by a new list -/
theorem KD.retC {D : Ends} {σ : L2.St} {te : TE} {xs : List V} (k : KD K A S c H Q) {A' : DkA} {S' : Wrtibu.State} {out : List Int} {H1 : Hp} (h : EvL te σ H1 xs) (hs : Wrtibu.step S c = (S', out)) (hx : xs = out.map V.int) (hA : DeskAt K H1 A' S') (f : Fr A A' H H1) (hn : ∀ p, H1 p = none → H p = none) (hD : D.rt = Q) : tRet te D σ H1 := by
  subst hx
  refine s_retL h fun p H2 hp e2 h2 => ?_
  rw [hD]
  exact k.fin hs (hA.mono e2) (f.ex e2) (hn p hp) h2
end
section
variable {K : PySem.W.Frag} {mg : Str → Option Value} {σ : L2.St} {H : Hp} {ta tb : TE} {A : DkA} {S : Wrtibu.State}
theorem evD_st (T : Txt K mg) {B : StA} (h : Ev ta σ H (.ref A.d)) (hA : DeskAt K H A S) (hB : A.st = some B) : Ev (tFld K ta "stem") σ H (.ref B.s) := by
  have z := evD_stem T h hA
  rw [hB] at z
  exact z
theorem ev_noStem (T : Txt K mg) (h : Ev ta σ H (.ref A.d)) (hA : DeskAt K H A S) : Ev (tOp rIsN (tFld K ta "stem") (tC .non)) σ H (.bl S.stem.isNone) := ev_bl (ev_isN (evD_stem T h hA)) (stemB hA.st)
theorem ev_lacks {E' : XK} {k : Nat} (h : Ev ta σ H (.ref A.d)) (hA : DeskAt K H A S) (h2 : Ev tb σ H (.int (k : Int))) (hk : k < 8) : Ev (tMeth (He.ga K "Desk") "lacks" (sp_Desk_lacks K) [] E' ta (tCons tb tNil)) σ H (.bl (S.stem.isNone || ((S.products[k]?).join).isNone)) :=
  ev_methD h hA (dkF_no (by decide +kernel)) (ea_cons h2 ea_nil) fun H1 e Q q _ => ⟨A, S, k, rfl, hA.mono e, hk, q⟩
theorem ev_noProduct {E' : XK} {k : Nat} (h : Ev ta σ H (.ref A.d)) (hA : DeskAt K H A S) (h2 : Ev tb σ H (.int (k : Int))) (hk : k < 8) : Ev (tMeth (He.ga K "Desk") "has_no_product" (sp_Desk_has_no_product K) [] E' ta (tCons tb tNil)) σ H (.bl ((S.products[k]?).join).isNone) :=
  ev_methD h hA (dkF_no (by decide +kernel)) (ea_cons h2 ea_nil) fun H1 e Q q _ => ⟨A, S, k, rfl, hA.mono e, hk, q⟩
theorem evD_prod (T : Txt K mg) {k : Nat} {B : PrA} (h : Ev ta σ H (.ref A.d)) (hA : DeskAt K H A S) (h2 : Ev tb σ H (.int (k : Int))) (hB : A.pr[k]? = some (some B)) : Ev (tOp (rIxL K) (tFld K ta "products") tb) σ H (.ref B.p) := ev_prod hA.pro (evD_products T h hA) h2 hB
end
theorem not_t {b : Bool} (h : (!b) = true) : b = false := by
  cases b
  · rfl
  · cases h
theorem not_f {b : Bool} (h : (!b) = false) : b = true := by
  cases b
  · cases h
  · rfl
theorem isProduct_nat {k : Int} (h : Wrtibu.isProduct k = true) : ∃ n : Nat, k = (n : Int) ∧ n < 8 := by
  unfold Wrtibu.isProduct TimBase.within at h
  rw [Bool.and_eq_true, decide_eq_true_eq, decide_eq_true_eq] at h
  exact ⟨k.toNat, by omega, by omega⟩
theorem isTen_nat {k : Int} (h : Wrtibu.isTen k = true) : ∃ n : Nat, k = (n : Int) ∧ n ≤ 2000 ∧ n % 10 = 0 := by
  have := isTen_bounds h
  exact ⟨k.toNat, by omega, by omega, by omega⟩
theorem isLong_nat {k : Int} (h : Wrtibu.isLong k = true) : ∃ n : Nat, k = (n : Int) ∧ 10 ≤ n ∧ n ≤ 2000 ∧ n % 10 = 0 := by
  have := isLong_bounds h
  exact ⟨k.toNat, by omega, by omega, by omega, by omega⟩
theorem isHeight_nat {k : Int} (h : Wrtibu.isHeight k = true) : ∃ n : Nat, k = (n : Int) ∧ n ≤ 2000 := by
  have := isHeight_bounds h
  exact ⟨k.toNat, by omega, by omega⟩
theorem isPart_nat {a b : Int} (h : Wrtibu.isPart a b = true) : ∃ m n : Nat, a = (m : Int) ∧ b = (n : Int) ∧ m % 10 = 0 ∧ n % 10 = 0 ∧ m < n ∧ n ≤ 2000 := by
  unfold Wrtibu.isPart at h
  rw [Bool.and_eq_true, Bool.and_eq_true, decide_eq_true_eq] at h
  obtain ⟨m, rfl, h1, h2⟩ := isTen_nat h.1
  obtain ⟨n, rfl, h3, h4⟩ := isTen_nat h.2.1
  exact ⟨m, n, rfl, rfl, h2, h4, by omega, h3⟩
theorem none_or_stem {S : Wrtibu.State} : (S.stem.isNone = true ∧ S.stem = none) ∨ (S.stem.isNone = false ∧ ∃ s, S.stem = some s) := by
  cases S.stem with
  | none => exact .inl ⟨rfl, rfl⟩
  | some s => exact .inr ⟨rfl, s, rfl⟩
section
variable {P : Program} {w : World} {K : PySem.W.Frag} {mg : Str → Option Value} {base : Heap} {vs : List V} {H : Hp} {Q : VK} {E : XK}
/-! ## call 8 -/
abbrev sp_tell_diameter (K : PySem.W.Frag) : Sp := spDeed K 1 fun ws _ => .diameter (ws.headD 0)
theorem len_tell_diameter (h : sp_tell_diameter K vs H Q E) : vs.length = 3 := spDeed_len h
abbrev NL_tell_diameter : List Str := ["desk", "wholes", "row", "x"]
theorem sc_tell_diameter : FnScope NL_tell_diameter ["desk", "wholes", "row"] (defScope s_tell_diameter) := ⟨rfl, rfl, rfl, by decide +kernel, rfl, by decide +kernel, by decide +kernel⟩
def t_tell_diameter (K : PySem.W.Frag) : TS := (tSeq (tAsg (tOp (rIxL K) (tVar 1) (tC (.int 0))) (gName 3))
    (tSeq (tIfS (tNot (tB (tCall (sp_is_height K) [] E0 (tCons (tVar 3) tNil)))) (tRet (tLst (tCons (tC (.int (-1))) tNil))) tNext)
    (tSeq (tIfS (tTest (tOp rIsN (tFld K (tVar 0) "stem") (tC .non))) (tRet (tLst (tCons (tC (.int (-3))) tNil))) tNext)
    (tSeq (tIfS (tTest (tOp (rI0 fun i j => .bl (decide (j < i))) (tVar 3) (tFld K (tFld K (tVar 0) "stem") "top"))) (tRet (tLst (tCons (tC (.int (-4))) tNil))) tNext)
    (tRet (tLst (tCons (tC (.int 0)) (tCons (tCall (sp_diameter_at K) [] E0 (tCons (tFld K (tFld K (tVar 0) "stem") "points") (tCons (tVar 3) tNil))) tNil))))))))
theorem w_tell_diameter (T : Txt K mg) (cdv : Value) (A : Around) (outer : List Env) (s : Shared) (H : Hp) (E : XK) (hr : Room 2 (A.deeper (envOfC "tell_diameter" (defScope s_tell_diameter) s.heap.objs.size (He.fAd K ("tell_diameter", none)) cdv))) :
    PSs (cxOf CX0 P w K mg base NL_tell_diameter "tell_diameter" (defScope s_tell_diameter) (He.fAd K ("tell_diameter", none)) cdv A outer s H E).nox (defBody s_tell_diameter) (t_tell_diameter K) := by
  exact (pss_cons (ps_set (i := 3) sc_tell_diameter.nd rfl (.inl rfl) (pe_ix ix_list (pv 1) (by exact pe_int) (fun _ _ => rfl)))
    (pss_cons (ps_if (pt_not (pt_val (pe_callG (ok_is_height T) (hr.mono (by decide)) rfl (T.glo 1 rfl) (pa_cons (pv 3) pa_nil)))) (pss_one (ps_ret (pe_lst (pa_cons (pe_gi rfl (T.int 87 rfl)) pa_nil)))) pss_nil)
    (pss_cons (ps_if (pt_cmpR op_isN (pe_fld (pv 0) rfl) (by exact pe_non) (nomark _)) (pss_one (ps_ret (pe_lst (pa_cons (pe_gi rfl (T.int 88 rfl)) pa_nil)))) pss_nil)
    (pss_cons (ps_if (pt_cmpR op_gt (pv 3) (pe_fld (pe_fld (pv 0) rfl) rfl) (nomark _)) (pss_one (ps_ret (pe_lst (pa_cons (pe_gi rfl (T.int 89 rfl)) pa_nil)))) pss_nil)
    (pss_one (ps_ret (pe_lst (pa_cons (by exact pe_int) (pa_cons (pe_callG (ok_diameter_at T) (hr.mono (by decide)) rfl (T.glo 20 rfl) (pa_cons (pe_fld (pe_fld (pv 0) rfl) rfl) (pa_cons (pv 3) pa_nil))) pa_nil)))))))))
theorem pure_tell_diameter (T : Txt K mg) (h : sp_tell_diameter K vs H Q E) : t_tell_diameter K { nx := fun _ H' => Q .non H', rt := Q } (start NL_tell_diameter vs) H := by
  obtain ⟨A, S, aW, ws, aR, rs, rfl, hA, hW, hR, hn, hr, k⟩ := h
  match ws, hn with
  | [x], _ =>
  refine q_asg (ev_ixL (ev_var rfl) ev_c hW rfl) fun H1 e1 => ?_
  refine q_when (et_not (et_B (ev_I1 (ev_var rfl)))) (fun hb H2 e2 => k.ret1 hA ?_ (e1.trans e2) rfl) (fun hb H2 e2 => ?_)
  · have hx : Wrtibu.isHeight x = false := by simpa using hb
    show (S, if Wrtibu.isHeight x = false then _ else _) = _
    rw [if_pos hx]
    rfl
  have hx : Wrtibu.isHeight x = true := by simpa using hb
  replace e1 := e1.trans e2
  have st : Wrtibu.step S (.diameter x) = (S, Wrtibu.onStem S fun s => if (s.top : Int) < x then TimBase.CANT else [0, (s.diameter x.toNat : Int)]) := by
    show (S, if Wrtibu.isHeight x = false then _ else _) = _
    rw [if_neg (by rw [hx]; decide)]
  unfold Wrtibu.onStem at st
  clear hb e2
  refine q_when (et_test (ev_noStem T (ev_var rfl) (hA.mono e1))) (fun hb H3 e3 => k.ret1 hA ?_ (e1.trans e3) rfl) (fun hb H3 e3 => ?_)
  · have hS : S.stem = none := Option.isNone_iff_eq_none.mp hb
    refine st.trans ?_
    rw [hS]
    rfl
  replace e1 := e1.trans e3
  obtain ⟨s, hS⟩ : ∃ s, S.stem = some s := Option.isSome_iff_exists.mp (by rw [← Option.not_isNone, hb]; rfl)
  obtain ⟨B, hB, hs⟩ := hA.st_some hS
  rw [hS] at st
  obtain ⟨n, rfl, hn⟩ := isHeight_nat hx
  have hs1 := hs.mono e1
  have hst : Ev (tFld K (tVar 0) "stem") [some (.ref A.d), some (.ref aW), some (.ref aR), some (.int (n : Int))] H3 (.ref B.s) := evD_st T (ev_var rfl) (hA.mono e1) hB
  refine q_when (et_test (ev_gt (ev_var rfl) (evS_top T hst hs1))) (fun hb H4 e4 => k.ret1 hA ?_ (e1.trans e4) rfl) (fun hb H4 e4 => ?_)
  · refine st.trans ?_
    show (S, if (s.top : Int) < (n : Int) then _ else _) = _
    rw [if_pos (of_decide_eq_true hb)]
    rfl
  have hle := of_decide_eq_false hb
  have ht : n ≤ s.top := by omega
  refine k.ret (out := [0, ((s.diameter n : Nat) : Int)]) hA (el_lst (ea_cons ev_c (ea_cons (ev_call (ea_cons (evS_points T (hst.mono e4) (hs1.mono e4)) (ea_cons (ev_var rfl) ea_nil)) fun H5 e5 Q' q _ => ⟨B.aP, s.points, n, rfl, ⟨B.tP, sq_of ((e4.trans e5) _ _ hs1.pts), tups_ex (e4.trans e5) hs1.ptT⟩, hs.ok.pts, by rw [← hs.ok.topEq]; exact ht, q⟩) ea_nil)) (by show 2 ≤ 100000; decide)) (st.trans ?_) rfl (e1.trans e4) rfl
  show (S, if (s.top : Int) < (n : Int) then _ else _) = _
  rw [if_neg (by omega)]
  rfl
theorem ok_tell_diameter (T : Txt K mg) : Good P w K mg base ("tell_diameter", none) 3 ["desk", "wholes", "row"] (sp_tell_diameter K) :=
  good_mk (d := d_tell_diameter) T 85 rfl rfl rfl sc_tell_diameter (fun vs H Q E h => len_tell_diameter h) (fun _ _ _ _ _ _ us hl => match us, hl with | [_, _, _], _ => rfl) (fun cdv A outer s H E hr => w_tell_diameter T cdv A outer s H E hr) (fun vs H Q E h => pure_tell_diameter T h)
end
end Sb
end
section
set_option maxHeartbeats 4000000
namespace Sb
open PySem PySem.Spec PySem.Calls PyProof.Rows L2 Evl
open TimBuck (Stem Product Piece diameterIn Log)
theorem onBoth_lacks {S : Wrtibu.State} {k : Nat} {f : Stem → Product → TimBase.Row} (h : (S.stem.isNone || ((S.products[k]?).join).isNone) = true) : Wrtibu.onBoth S (k : Int) f = [-3] := by
  unfold Wrtibu.onBoth Wrtibu.State.product
  rw [Int.toNat_natCast]
  revert h
  cases S.stem <;> cases (S.products[k]?).join <;> intro h <;> first | rfl | cases h
theorem lacks_not {S : Wrtibu.State} {k : Nat} (h : (S.stem.isNone || ((S.products[k]?).join).isNone) = false) : ∃ s p, S.stem = some s ∧ S.products[k]? = some (some p) := by
  rw [Bool.or_eq_false_iff] at h
  obtain ⟨s, hs⟩ : ∃ s, S.stem = some s := Option.isSome_iff_exists.mp (by rw [← Option.not_isNone, h.1]; rfl)
  obtain ⟨p, hp⟩ : ∃ p, (S.products[k]?).join = some p := Option.isSome_iff_exists.mp (by rw [← Option.not_isNone, h.2]; rfl)
  exact ⟨s, p, hs, join_some hp⟩
theorem onBoth_both {S : Wrtibu.State} {k : Nat} {s : Stem} {p : Product} {f : Stem → Product → TimBase.Row} (h : S.stem = some s) (h2 : S.products[k]? = some (some p)) : Wrtibu.onBoth S (k : Int) f = f s p := by
  unfold Wrtibu.onBoth Wrtibu.State.product
  rw [Int.toNat_natCast, some_join h2, h]
theorem DeskAt.pr_some {K : PySem.W.Frag} {H : Hp} {A : DkA} {S : Wrtibu.State} (h : DeskAt K H A S) {k : Nat} {p : Product} (hk : S.products[k]? = some (some p)) : ∃ B, A.pr[k]? = some (some B) ∧ ProdAt K H B p := h.pro.get_some hk
section
variable {P : Program} {w : World} {K : PySem.W.Frag} {mg : Str → Option Value} {base : Heap} {vs : List V} {H : Hp} {Q : VK} {E : XK}
/-! ## call 10 -/
abbrev sp_tell_grade (K : PySem.W.Frag) : Sp := spDeed K 2 fun ws _ => .grade (ws.getD 0 0) (ws.getD 1 0)
theorem len_tell_grade (h : sp_tell_grade K vs H Q E) : vs.length = 3 := spDeed_len h
abbrev NL_tell_grade : List Str := ["desk", "wholes", "row", "a", "b"]
theorem sc_tell_grade : FnScope NL_tell_grade ["desk", "wholes", "row"] (defScope s_tell_grade) := ⟨rfl, rfl, rfl, by decide +kernel, rfl, by decide +kernel, by decide +kernel⟩
def t_tell_grade (K : PySem.W.Frag) : TS := (tSeq (tAsg (tVar 1) (gUnl K 2 (gCons (gName 3) (gCons (gName 4) gNil))))
    (tSeq (tIfS (tNot (tB (tCall (sp_is_stretch K) [] E0 (tCons (tVar 3) (tCons (tVar 4) tNil))))) (tRet (tLst (tCons (tC (.int (-1))) tNil))) tNext)
    (tSeq (tIfS (tTest (tOp rIsN (tFld K (tVar 0) "stem") (tC .non))) (tRet (tLst (tCons (tC (.int (-3))) tNil))) tNext)
    (tSeq (tIfS (tTest (tOp (rI0 fun i j => .bl (decide (j < i))) (tVar 4) (tFld K (tFld K (tVar 0) "stem") "top"))) (tRet (tLst (tCons (tC (.int (-4))) tNil))) tNext)
    (tRet (tLst (tCons (tC (.int 0)) (tCons (tMeth (He.ga K "Stem") "worst_grade" (sp_Stem_worst_grade K) [] E0 (tFld K (tVar 0) "stem") (tCons (tVar 3) (tCons (tVar 4) tNil))) (tCons (tIf (tB (tMeth (He.ga K "Stem") "has_rot" (sp_Stem_has_rot K) [] E0 (tFld K (tVar 0) "stem") (tCons (tVar 3) (tCons (tVar 4) tNil)))) (tC (.int 1)) (tC (.int 0))) tNil)))))))))
theorem w_tell_grade (T : Txt K mg) (cdv : Value) (A : Around) (outer : List Env) (s : Shared) (H : Hp) (E : XK) (hr : Room 4 (A.deeper (envOfC "tell_grade" (defScope s_tell_grade) s.heap.objs.size (He.fAd K ("tell_grade", none)) cdv))) :
    PSs (cxOf CX0 P w K mg base NL_tell_grade "tell_grade" (defScope s_tell_grade) (He.fAd K ("tell_grade", none)) cdv A outer s H E).nox (defBody s_tell_grade) (t_tell_grade K) := by
  exact (pss_cons (ps_asg (pv 1) (pg_unl rfl (pgs_cons (pg_name (i := 3) sc_tell_grade.nd rfl (.inl rfl)) (pgs_cons (pg_name (i := 4) sc_tell_grade.nd rfl (.inl rfl)) pgs_nil))))
    (pss_cons (ps_if (pt_not (pt_val (pe_callG (ok_is_stretch T) (hr.mono (by decide)) rfl (T.glo 4 rfl) (pa_cons (pv 3) (pa_cons (pv 4) pa_nil))))) (pss_one (ps_ret (pe_lst (pa_cons (pe_gi rfl (T.int 87 rfl)) pa_nil)))) pss_nil)
    (pss_cons (ps_if (pt_cmpR op_isN (pe_fld (pv 0) rfl) (by exact pe_non) (nomark _)) (pss_one (ps_ret (pe_lst (pa_cons (pe_gi rfl (T.int 88 rfl)) pa_nil)))) pss_nil)
    (pss_cons (ps_if (pt_cmpR op_gt (pv 4) (pe_fld (pe_fld (pv 0) rfl) rfl) (nomark _)) (pss_one (ps_ret (pe_lst (pa_cons (pe_gi rfl (T.int 89 rfl)) pa_nil)))) pss_nil)
    (pss_one (ps_ret (pe_lst (pa_cons (by exact pe_int) (pa_cons (pe_methG (pe_fld (pv 0) rfl) (T.cls 101 rfl) (T.meth 112 rfl) (ok_Stem_worst_grade T) (hr.mono (by decide)) (pa_cons (pv 3) (pa_cons (pv 4) pa_nil))) (pa_cons (pe_ifExp (pt_val (pe_methG (pe_fld (pv 0) rfl) (T.cls 101 rfl) (T.meth 113 rfl) (ok_Stem_has_rot T) (hr.mono (by decide)) (pa_cons (pv 3) (pa_cons (pv 4) pa_nil)))) (by exact pe_int) (by exact pe_int)) pa_nil))))))))))
theorem pure_tell_grade (T : Txt K mg) (h : sp_tell_grade K vs H Q E) : t_tell_grade K { nx := fun _ H' => Q .non H', rt := Q } (start NL_tell_grade vs) H := by
  obtain ⟨A, S, aW, ws, aR, rs, rfl, hA, hW, hR, hn, hr, k⟩ := h
  match ws, hn with
  | [a, b], _ =>
  refine q_unL (σ' := [some (.ref A.d), some (.ref aW), some (.ref aR), some (.int a), some (.int b)]) (ev_var rfl) hW rfl (fun H' Q q => ⟨_, _, rfl, _, _, rfl, rfl, q⟩) fun H1 e1 => ?_
  refine q_when (et_not (et_B (ev_I2 (ev_var rfl) (ev_var rfl)))) (fun hb H2 e2 => k.ret1 hA ?_ (e1.trans e2) rfl) (fun hb H2 e2 => ?_)
  · have hx : Wrtibu.isPart a b = false := by simpa using hb
    show (S, if Wrtibu.isPart a b = false then _ else _) = _
    rw [if_pos hx]
    rfl
  have hx : Wrtibu.isPart a b = true := by simpa using hb
  replace e1 := e1.trans e2
  have st : Wrtibu.step S (.grade a b) = (S, Wrtibu.onStem S fun s => if (s.top : Int) < b then TimBase.CANT else [0, (s.grade a.toNat b.toNat : Int), if s.rotten a.toNat b.toNat = true then 1 else 0]) := by
    show (S, if Wrtibu.isPart a b = false then _ else _) = _
    rw [if_neg (by rw [hx]; decide)]
  unfold Wrtibu.onStem at st
  clear hb e2
  refine q_when (et_test (ev_noStem T (ev_var rfl) (hA.mono e1))) (fun hb H3 e3 => k.ret1 hA ?_ (e1.trans e3) rfl) (fun hb H3 e3 => ?_)
  · have hS : S.stem = none := Option.isNone_iff_eq_none.mp hb
    refine st.trans ?_
    rw [hS]
    rfl
  replace e1 := e1.trans e3
  obtain ⟨s, hS⟩ : ∃ s, S.stem = some s := Option.isSome_iff_exists.mp (by rw [← Option.not_isNone, hb]; rfl)
  obtain ⟨B, hB, hs⟩ := hA.st_some hS
  rw [hS] at st
  obtain ⟨m, n, rfl, rfl, c1, c2, c3, c4⟩ := isPart_nat hx
  have hs1 := hs.mono e1
  have hst : Ev (tFld K (tVar 0) "stem") [some (.ref A.d), some (.ref aW), some (.ref aR), some (.int (m : Int)), some (.int (n : Int))] H3 (.ref B.s) := evD_st T (ev_var rfl) (hA.mono e1) hB
  refine q_when (et_test (ev_gt (ev_var rfl) (evS_top T hst hs1))) (fun hb H4 e4 => k.ret1 hA ?_ (e1.trans e4) rfl) (fun hb H4 e4 => ?_)
  · refine st.trans ?_
    show (S, if (s.top : Int) < (n : Int) then _ else _) = _
    rw [if_pos (of_decide_eq_true hb)]
    rfl
  have hle := of_decide_eq_false hb
  have ht : n ≤ s.top := by omega
  have hs4 := hs1.mono e4
  have hst4 := hst.mono e4
  refine k.ret (out := [0, ((s.grade m n : Nat) : Int), if s.rotten m n = true then 1 else 0]) hA (el_lst (ea_cons ev_c (ea_cons (ev_S2 hst4 hs4 (stF_no (by decide +kernel)) (ev_var rfl) (ev_var rfl) ⟨c1, c2, c3, ht⟩) (ea_cons (ev_if (v := .int (if s.rotten m n = true then 1 else 0)) (et_B (ev_S2 hst4 hs4 (stF_no (by decide +kernel)) (ev_var rfl) (ev_var rfl) ⟨c1, c2, c3, ht⟩)) (fun hb => by rw [if_pos hb]; exact ev_c) (fun hb => by rw [if_neg (by rw [hb]; decide)]; exact ev_c)) ea_nil))) (by show 3 ≤ 100000; decide)) (st.trans ?_) rfl (e1.trans e4) rfl
  show (S, if (s.top : Int) < (n : Int) then _ else _) = _
  rw [if_neg (by omega)]
  rfl
theorem ok_tell_grade (T : Txt K mg) : Good P w K mg base ("tell_grade", none) 5 ["desk", "wholes", "row"] (sp_tell_grade K) :=
  good_mk (d := d_tell_grade) T 87 rfl rfl rfl sc_tell_grade (fun vs H Q E h => len_tell_grade h) (fun _ _ _ _ _ _ us hl => match us, hl with | [_, _, _], _ => rfl) (fun cdv A outer s H E hr => w_tell_grade T cdv A outer s H E hr) (fun vs H Q E h => pure_tell_grade T h)
/-! ## calls 11, 12 -/
abbrev sp_tell_fits (K : PySem.W.Frag) : Sp := spDeed K 3 fun ws _ => .fits (ws.getD 0 0) (ws.getD 1 0) (ws.getD 2 0)
theorem len_tell_fits (h : sp_tell_fits K vs H Q E) : vs.length = 3 := spDeed_len h
abbrev NL_tell_fits : List Str := ["desk", "wholes", "row", "k", "a", "paid"]
theorem sc_tell_fits : FnScope NL_tell_fits ["desk", "wholes", "row"] (defScope s_tell_fits) := ⟨rfl, rfl, rfl, by decide +kernel, rfl, by decide +kernel, by decide +kernel⟩
def t_tell_fits (K : PySem.W.Frag) : TS := (tSeq (tAsg (tVar 1) (gUnl K 3 (gCons (gName 3) (gCons (gName 4) (gCons (gName 5) gNil)))))
    (tSeq (tIfS (tNot (tB (tCall (sp_is_log K) [] E0 (tCons (tVar 3) (tCons (tVar 4) (tCons (tVar 5) tNil)))))) (tRet (tLst (tCons (tC (.int (-1))) tNil))) tNext)
    (tSeq (tIfS (tB (tMeth (He.ga K "Desk") "lacks" (sp_Desk_lacks K) [] E0 (tVar 0) (tCons (tVar 3) tNil))) (tRet (tLst (tCons (tC (.int (-3))) tNil))) tNext)
    (tRet (tLst (tCons (tC (.int 0)) (tCons (tCall (sp_against K) [] E0 (tCons (tFld K (tVar 0) "stem") (tCons (tOp (rIxL K) (tFld K (tVar 0) "products") (tVar 3)) (tCons (tVar 4) (tCons (tVar 5) tNil))))) tNil)))))))
theorem w_tell_fits (T : Txt K mg) (cdv : Value) (A : Around) (outer : List Env) (s : Shared) (H : Hp) (E : XK) (hr : Room 5 (A.deeper (envOfC "tell_fits" (defScope s_tell_fits) s.heap.objs.size (He.fAd K ("tell_fits", none)) cdv))) :
    PSs (cxOf CX0 P w K mg base NL_tell_fits "tell_fits" (defScope s_tell_fits) (He.fAd K ("tell_fits", none)) cdv A outer s H E).nox (defBody s_tell_fits) (t_tell_fits K) := by
  exact (pss_cons (ps_asg (pv 1) (pg_unl rfl (pgs_cons (pg_name (i := 3) sc_tell_fits.nd rfl (.inl rfl)) (pgs_cons (pg_name (i := 4) sc_tell_fits.nd rfl (.inl rfl)) (pgs_cons (pg_name (i := 5) sc_tell_fits.nd rfl (.inl rfl)) pgs_nil)))))
    (pss_cons (ps_if (pt_not (pt_val (pe_callG (ok_is_log T) (hr.mono (by decide)) rfl (T.glo 8 rfl) (pa_cons (pv 3) (pa_cons (pv 4) (pa_cons (pv 5) pa_nil)))))) (pss_one (ps_ret (pe_lst (pa_cons (pe_gi rfl (T.int 87 rfl)) pa_nil)))) pss_nil)
    (pss_cons (ps_if (pt_val (pe_methG (pv 0) (T.cls 134 rfl) (T.meth 142 rfl) (ok_Desk_lacks T) (hr.mono (by decide)) (pa_cons (pv 3) pa_nil))) (pss_one (ps_ret (pe_lst (pa_cons (pe_gi rfl (T.int 88 rfl)) pa_nil)))) pss_nil)
    (pss_one (ps_ret (pe_lst (pa_cons (by exact pe_int) (pa_cons (pe_callG (ok_against T) (hr.mono (by decide)) rfl (T.glo 25 rfl) (pa_cons (pe_fld (pv 0) rfl) (pa_cons (pe_ix ix_list (pe_fld (pv 0) rfl) (pv 3) (fun _ _ => rfl)) (pa_cons (pv 4) (pa_cons (pv 5) pa_nil))))) pa_nil))))))))
theorem pure_tell_fits (T : Txt K mg) (h : sp_tell_fits K vs H Q E) : t_tell_fits K { nx := fun _ H' => Q .non H', rt := Q } (start NL_tell_fits vs) H := by
  obtain ⟨A, S, aW, ws, aR, rs, rfl, hA, hW, hR, hn, hr, k⟩ := h
  match ws, hn with
  | [x, a, l], _ =>
  refine q_unL (σ' := [some (.ref A.d), some (.ref aW), some (.ref aR), some (.int x), some (.int a), some (.int l)]) (ev_var rfl) hW rfl (fun H' Q q => ⟨_, _, rfl, _, _, rfl, _, _, rfl, rfl, q⟩) fun H1 e1 => ?_
  refine q_when (et_not (et_B (ev_I3 (ev_var rfl) (ev_var rfl) (ev_var rfl)))) (fun hb H2 e2 => k.ret1 hA ?_ (e1.trans e2) rfl) (fun hb H2 e2 => ?_)
  · have hx : (Wrtibu.isProduct x && (Wrtibu.isTen a && Wrtibu.isLong l)) = false := not_t hb
    show (S, if (Wrtibu.isProduct x && (Wrtibu.isTen a && Wrtibu.isLong l)) = false then _ else _) = _
    rw [if_pos hx]
    rfl
  have hx : (Wrtibu.isProduct x && (Wrtibu.isTen a && Wrtibu.isLong l)) = true := not_f hb
  replace e1 := e1.trans e2
  have st : Wrtibu.step S (.fits x a l) = (S, Wrtibu.onBoth S x fun s p => [0, (TimBuck.against s p a.toNat l.toNat : Int)]) := by
    show (S, if (Wrtibu.isProduct x && (Wrtibu.isTen a && Wrtibu.isLong l)) = false then _ else _) = _
    rw [if_neg (by rw [hx]; decide)]
  clear hb e2
  rw [Bool.and_eq_true, Bool.and_eq_true] at hx
  obtain ⟨kn, rfl, hk⟩ := isProduct_nat hx.1
  obtain ⟨an, rfl, a1, a2⟩ := isTen_nat hx.2.1
  obtain ⟨ln, rfl, l1, l2, l3⟩ := isLong_nat hx.2.2
  refine q_when (et_B (ev_lacks (ev_var rfl) (hA.mono e1) (ev_var rfl) hk)) (fun hb H3 e3 => k.ret1 hA ?_ (e1.trans e3) rfl) (fun hb H3 e3 => ?_)
  · refine st.trans ?_
    rw [onBoth_lacks hb]
  replace e1 := e1.trans e3
  obtain ⟨s, p, hS, hp⟩ := lacks_not hb
  obtain ⟨B, hB, hs⟩ := hA.st_some hS
  obtain ⟨C, hC, hpC⟩ := hA.pr_some hp
  rw [onBoth_both hS hp] at st
  have hA1 := hA.mono e1
  exact k.ret (out := [0, ((TimBuck.against s p an ln : Nat) : Int)]) hA (el_lst (ea_cons ev_c (ea_cons (ev_against (evD_st T (ev_var rfl) hA1 hB) (evD_prod T (ev_var rfl) hA1 (ev_var rfl) hC) (ev_var rfl) (ev_var rfl) (hs.mono e1) (hpC.mono e1) ⟨a2, l3, l1⟩) ea_nil)) (by show 2 ≤ 100000; decide)) st rfl e1 rfl
theorem ok_tell_fits (T : Txt K mg) : Good P w K mg base ("tell_fits", none) 6 ["desk", "wholes", "row"] (sp_tell_fits K) :=
  good_mk (d := d_tell_fits) T 88 rfl rfl rfl sc_tell_fits (fun vs H Q E h => len_tell_fits h) (fun _ _ _ _ _ _ us hl => match us, hl with | [_, _, _], _ => rfl) (fun cdv A outer s H E hr => w_tell_fits T cdv A outer s H E hr) (fun vs H Q E h => pure_tell_fits T h)
abbrev sp_tell_worth (K : PySem.W.Frag) : Sp := spDeed K 3 fun ws _ => .worth (ws.getD 0 0) (ws.getD 1 0) (ws.getD 2 0)
theorem len_tell_worth (h : sp_tell_worth K vs H Q E) : vs.length = 3 := spDeed_len h
abbrev NL_tell_worth : List Str := ["desk", "wholes", "row", "k", "a", "paid"]
theorem sc_tell_worth : FnScope NL_tell_worth ["desk", "wholes", "row"] (defScope s_tell_worth) := ⟨rfl, rfl, rfl, by decide +kernel, rfl, by decide +kernel, by decide +kernel⟩
def t_tell_worth (K : PySem.W.Frag) : TS := (tSeq (tAsg (tVar 1) (gUnl K 3 (gCons (gName 3) (gCons (gName 4) (gCons (gName 5) gNil)))))
    (tSeq (tIfS (tNot (tB (tCall (sp_is_log K) [] E0 (tCons (tVar 3) (tCons (tVar 4) (tCons (tVar 5) tNil)))))) (tRet (tLst (tCons (tC (.int (-1))) tNil))) tNext)
    (tSeq (tIfS (tB (tMeth (He.ga K "Desk") "lacks" (sp_Desk_lacks K) [] E0 (tVar 0) (tCons (tVar 3) tNil))) (tRet (tLst (tCons (tC (.int (-3))) tNil))) tNext)
    (tSeq (tIfS (tTest (tOp rNe (tCall (sp_against K) [] E0 (tCons (tFld K (tVar 0) "stem") (tCons (tOp (rIxL K) (tFld K (tVar 0) "products") (tVar 3)) (tCons (tVar 4) (tCons (tVar 5) tNil))))) (tC (.int 0)))) (tRet (tLst (tCons (tC (.int (-4))) tNil))) tNext)
    (tRet (tLst (tCons (tC (.int 0)) (tCons (tCall (sp_worth_of K) [] E0 (tCons (tFld K (tVar 0) "stem") (tCons (tOp (rIxL K) (tFld K (tVar 0) "products") (tVar 3)) (tCons (tVar 4) (tCons (tVar 5) tNil))))) tNil))))))))
theorem w_tell_worth (T : Txt K mg) (cdv : Value) (A : Around) (outer : List Env) (s : Shared) (H : Hp) (E : XK) (hr : Room 5 (A.deeper (envOfC "tell_worth" (defScope s_tell_worth) s.heap.objs.size (He.fAd K ("tell_worth", none)) cdv))) :
    PSs (cxOf CX0 P w K mg base NL_tell_worth "tell_worth" (defScope s_tell_worth) (He.fAd K ("tell_worth", none)) cdv A outer s H E).nox (defBody s_tell_worth) (t_tell_worth K) := by
  exact (pss_cons (ps_asg (pv 1) (pg_unl rfl (pgs_cons (pg_name (i := 3) sc_tell_worth.nd rfl (.inl rfl)) (pgs_cons (pg_name (i := 4) sc_tell_worth.nd rfl (.inl rfl)) (pgs_cons (pg_name (i := 5) sc_tell_worth.nd rfl (.inl rfl)) pgs_nil)))))
    (pss_cons (ps_if (pt_not (pt_val (pe_callG (ok_is_log T) (hr.mono (by decide)) rfl (T.glo 8 rfl) (pa_cons (pv 3) (pa_cons (pv 4) (pa_cons (pv 5) pa_nil)))))) (pss_one (ps_ret (pe_lst (pa_cons (pe_gi rfl (T.int 87 rfl)) pa_nil)))) pss_nil)
    (pss_cons (ps_if (pt_val (pe_methG (pv 0) (T.cls 134 rfl) (T.meth 142 rfl) (ok_Desk_lacks T) (hr.mono (by decide)) (pa_cons (pv 3) pa_nil))) (pss_one (ps_ret (pe_lst (pa_cons (pe_gi rfl (T.int 88 rfl)) pa_nil)))) pss_nil)
    (pss_cons (ps_if (pt_cmpR op_ne (pe_callG (ok_against T) (hr.mono (by decide)) rfl (T.glo 25 rfl) (pa_cons (pe_fld (pv 0) rfl) (pa_cons (pe_ix ix_list (pe_fld (pv 0) rfl) (pv 3) (fun _ _ => rfl)) (pa_cons (pv 4) (pa_cons (pv 5) pa_nil))))) (by exact pe_int) (nomark _)) (pss_one (ps_ret (pe_lst (pa_cons (pe_gi rfl (T.int 89 rfl)) pa_nil)))) pss_nil)
    (pss_one (ps_ret (pe_lst (pa_cons (by exact pe_int) (pa_cons (pe_callG (ok_worth_of T) (hr.mono (by decide)) rfl (T.glo 26 rfl) (pa_cons (pe_fld (pv 0) rfl) (pa_cons (pe_ix ix_list (pe_fld (pv 0) rfl) (pv 3) (fun _ _ => rfl)) (pa_cons (pv 4) (pa_cons (pv 5) pa_nil))))) pa_nil)))))))))
theorem pure_tell_worth (T : Txt K mg) (h : sp_tell_worth K vs H Q E) : t_tell_worth K { nx := fun _ H' => Q .non H', rt := Q } (start NL_tell_worth vs) H := by
  obtain ⟨A, S, aW, ws, aR, rs, rfl, hA, hW, hR, hn, hr, k⟩ := h
  match ws, hn with
  | [x, a, l], _ =>
  refine q_unL (σ' := [some (.ref A.d), some (.ref aW), some (.ref aR), some (.int x), some (.int a), some (.int l)]) (ev_var rfl) hW rfl (fun H' Q q => ⟨_, _, rfl, _, _, rfl, _, _, rfl, rfl, q⟩) fun H1 e1 => ?_
  refine q_when (et_not (et_B (ev_I3 (ev_var rfl) (ev_var rfl) (ev_var rfl)))) (fun hb H2 e2 => k.ret1 hA ?_ (e1.trans e2) rfl) (fun hb H2 e2 => ?_)
  · have hx : (Wrtibu.isProduct x && (Wrtibu.isTen a && Wrtibu.isLong l)) = false := not_t hb
    show (S, if (Wrtibu.isProduct x && (Wrtibu.isTen a && Wrtibu.isLong l)) = false then _ else _) = _
    rw [if_pos hx]
    rfl
  have hx : (Wrtibu.isProduct x && (Wrtibu.isTen a && Wrtibu.isLong l)) = true := not_f hb
  replace e1 := e1.trans e2
  have st : Wrtibu.step S (.worth x a l) = (S, Wrtibu.onBoth S x fun s p => if TimBuck.against s p a.toNat l.toNat ≠ 0 then TimBase.CANT else [0, (TimBuck.worth s p a.toNat l.toNat : Int)]) := by
    show (S, if (Wrtibu.isProduct x && (Wrtibu.isTen a && Wrtibu.isLong l)) = false then _ else _) = _
    rw [if_neg (by rw [hx]; decide)]
  clear hb e2
  rw [Bool.and_eq_true, Bool.and_eq_true] at hx
  obtain ⟨kn, rfl, hk⟩ := isProduct_nat hx.1
  obtain ⟨an, rfl, a1, a2⟩ := isTen_nat hx.2.1
  obtain ⟨ln, rfl, l1, l2, l3⟩ := isLong_nat hx.2.2
  refine q_when (et_B (ev_lacks (ev_var rfl) (hA.mono e1) (ev_var rfl) hk)) (fun hb H3 e3 => k.ret1 hA ?_ (e1.trans e3) rfl) (fun hb H3 e3 => ?_)
  · refine st.trans ?_
    rw [onBoth_lacks hb]
  replace e1 := e1.trans e3
  obtain ⟨s, p, hS, hp⟩ := lacks_not hb
  obtain ⟨B, hB, hs⟩ := hA.st_some hS
  obtain ⟨C, hC, hpC⟩ := hA.pr_some hp
  rw [onBoth_both hS hp] at st
  have hA1 := hA.mono e1
  refine q_when (et_test (ev_nei (ev_against (evD_st T (ev_var rfl) hA1 hB) (evD_prod T (ev_var rfl) hA1 (ev_var rfl) hC) (ev_var rfl) (ev_var rfl) (hs.mono e1) (hpC.mono e1) ⟨a2, l3, l1⟩) ev_c)) (fun hb H4 e4 => k.ret1 hA (st.trans ?_) (e1.trans e4) rfl) (fun hb H4 e4 => ?_)
  · have c : TimBuck.against s p an ln ≠ 0 := fun z => by
      rw [z] at hb
      cases hb
    show (S, if TimBuck.against s p an ln ≠ 0 then _ else _) = _
    rw [if_pos c]
    rfl
  have c : TimBuck.against s p an ln = 0 := by
    have z : ((TimBuck.against s p an ln : Nat) : Int) = 0 := by simpa using hb
    omega
  have z := against_zero c
  have hA4 := hA1.mono e4
  refine k.ret (out := [0, ((TimBuck.worth s p an ln : Nat) : Int)]) hA (el_lst (ea_cons ev_c (ea_cons (ev_worth (evD_st T (ev_var rfl) hA4 hB) (evD_prod T (ev_var rfl) hA4 (ev_var rfl) hC) (ev_var rfl) (ev_var rfl) (hs.mono (e1.trans e4)) (hpC.mono (e1.trans e4)) ⟨a2, l3, by omega⟩) ea_nil)) (by show 2 ≤ 100000; decide)) (st.trans ?_) rfl (e1.trans e4) rfl
  show (S, if TimBuck.against s p an ln ≠ 0 then _ else _) = _
  rw [if_neg (by omega)]
  rfl
theorem ok_tell_worth (T : Txt K mg) : Good P w K mg base ("tell_worth", none) 6 ["desk", "wholes", "row"] (sp_tell_worth K) :=
  good_mk (d := d_tell_worth) T 89 rfl rfl rfl sc_tell_worth (fun vs H Q E h => len_tell_worth h) (fun _ _ _ _ _ _ us hl => match us, hl with | [_, _, _], _ => rfl) (fun cdv A outer s H E hr => w_tell_worth T cdv A outer s H E hr) (fun vs H Q E h => pure_tell_worth T h)
/-! ## call 9 -/
def sp_in_lowest_terms (K : PySem.W.Frag) : Sp := fun vs H Q _ => ∃ (a b : Nat), vs = [.int (a : Int), .int (b : Int)] ∧ 0 < b ∧ b < 1073741824 ∧ RetL (([((a / Nat.gcd a b : Nat) : Int), ((b / Nat.gcd a b : Nat) : Int)] : List Int).map V.int) H Q
theorem len_in_lowest_terms (h : sp_in_lowest_terms K vs H Q E) : vs.length = 2 := by
  obtain ⟨a, b, rfl, _⟩ := h
  rfl
abbrev NL_in_lowest_terms : List Str := ["above", "below", "common", "rest"]
theorem sc_in_lowest_terms : FnScope NL_in_lowest_terms ["above", "below"] (defScope s_in_lowest_terms) := ⟨rfl, rfl, rfl, by decide +kernel, rfl, by decide +kernel, by decide +kernel⟩
def t_in_lowest_terms (K : PySem.W.Frag) : TS := (tSeq (tAsg (tVar 1) (gName 2))
    (tSeq (tAsg (tVar 0) (gName 3))
    (tSeq (tWhile (tTest (tOp (rI0 fun i j => .bl (decide (j < i))) (tVar 3) (tC (.int 0)))) (tPar 2 3 (tCons (tVar 3) (tCons (tOp (rI (fun _ j => 0 < j) fun i j => .int (i % j)) (tVar 2) (tVar 3)) tNil))))
    (tRet (tLst (tCons (tOp (rI CDiv fun i j => .int (i / j)) (tVar 0) (tVar 2)) (tCons (tOp (rI CDiv fun i j => .int (i / j)) (tVar 1) (tVar 2)) tNil)))))))
theorem w_in_lowest_terms (T : Txt K mg) (cdv : Value) (A : Around) (outer : List Env) (s : Shared) (H : Hp) (E : XK) (hr : Room 0 (A.deeper (envOfC "in_lowest_terms" (defScope s_in_lowest_terms) s.heap.objs.size (He.fAd K ("in_lowest_terms", none)) cdv))) :
    PSs (cxOf CX0 P w K mg base NL_in_lowest_terms "in_lowest_terms" (defScope s_in_lowest_terms) (He.fAd K ("in_lowest_terms", none)) cdv A outer s H E).nox (defBody s_in_lowest_terms) (t_in_lowest_terms K) := by
  exact (pss_cons (ps_set (i := 2) sc_in_lowest_terms.nd rfl (.inl rfl) (pv 1))
    (pss_cons (ps_set (i := 3) sc_in_lowest_terms.nd rfl (.inl rfl) (pv 0))
    (pss_cons (ps_while PassesOwn.never (pt_cmpR op_gt (pv 3) (by exact pe_int) (nomark _)) (pss_one (ps_par (i := 2) (j := 3) rfl sc_in_lowest_terms.nd rfl rfl (by decide) rfl rfl (pa_cons (pv 3) (pa_cons (pe_op op_mod (pv 2) (pv 3)) pa_nil)) rfl)))
    (pss_one (ps_ret (pe_lst (pa_cons (pe_op op_fdiv (pv 0) (pv 2)) (pa_cons (pe_op op_fdiv (pv 1) (pv 2)) pa_nil))))))))
theorem pure_in_lowest_terms (T : Txt K mg) (h : sp_in_lowest_terms K vs H Q E) : t_in_lowest_terms K { nx := fun _ H' => Q .non H', rt := Q } (start NL_in_lowest_terms vs) H := by
  obtain ⟨a, b, rfl, hb0, hb1, k⟩ := h
  refine q_asg (ev_var rfl) fun H1 e1 => ?_
  refine q_asg (ev_var rfl) fun H2 e2 => ?_
  refine q_while (fun m σ' H' => ∃ (c r : Nat), σ' = [some (.int (a : Int)), some (.int (b : Int)), some (.int (c : Int)), some (.int (r : Int))] ∧ Ex H H' ∧ r = m ∧ 0 < c ∧ Nat.gcd r c = Nat.gcd a b) a ⟨b, a, rfl, e1.trans e2, rfl, hb0, rfl⟩ ?_
  rintro m σ' H' ⟨c, r, rfl, e, rfl, hc, hg⟩
  refine ⟨_, et_test (ev_gt (ev_var rfl) ev_c), fun hb H3 e3 => ?_, fun hb H3 e3 => ?_⟩
  · have hr : 0 < r := by
      have := of_decide_eq_true hb
      omega
    refine ⟨fun σ2 J => ∃ (c' r' : Nat), σ2 = [some (.int (a : Int)), some (.int (b : Int)), some (.int (c' : Int)), some (.int (r' : Int))] ∧ Ex H J ∧ r' < r ∧ 0 < c' ∧ Nat.gcd r' c' = Nat.gcd a b, fun σ2 J ⟨c', r', h1, h2, h3, h4, h5⟩ => ⟨r', h3, c', r', h1, h2, rfl, h4, h5⟩, ?_⟩
    refine (ea_cons (ev_var rfl) (ea_cons (ev_int (ev_mod (ev_var rfl) (ev_var rfl) (by omega)) (show (c : Int) % (r : Int) = ((c % r : Nat) : Int) by omega)) ea_nil) : EvA (tCons (tVar 3) (tCons (tOp (rI (fun _ j => 0 < j) fun i j => .int (i % j)) (tVar 2) (tVar 3)) tNil)) [some (.int (a : Int)), some (.int (b : Int)), some (.int (c : Int)), some (.int (r : Int))] H3 [.int (r : Int), .int ((c % r : Nat) : Int)]) H3 (Ex.refl H3) _ fun H4 e4 => ⟨_, _, rfl, r, c % r, rfl, (e.trans e3).trans e4, Nat.mod_lt _ hr, hr, ?_⟩
    rw [← hg]
    exact (Nat.gcd_rec r c).symm
  · have hr : r = 0 := by
      have := of_decide_eq_false hb
      omega
    subst hr
    rw [Nat.gcd_zero_left] at hg
    have hcb : c ≤ b := by
      rw [hg]
      exact Nat.le_of_dvd hb0 (Nat.gcd_dvd_right a b)
    refine s_retL (el_lst (ea_cons (ev_div (ev_var rfl) (ev_var rfl) (by omega)) (ea_cons (ev_div (ev_var rfl) (ev_var rfl) (by omega)) ea_nil)) (by show 2 ≤ 100000; decide)) fun p H4 hp e4 h4 => k p H4 (fresh_back (e.trans e3) hp) ((e.trans e3).trans e4) ?_
    rw [h4, ← hg, Int.natCast_ediv, Int.natCast_ediv]
    rfl
theorem ok_in_lowest_terms (T : Txt K mg) : Good P w K mg base ("in_lowest_terms", none) 1 ["above", "below"] (sp_in_lowest_terms K) :=
  good_mk (d := d_in_lowest_terms) T 84 rfl rfl rfl sc_in_lowest_terms (fun vs H Q E h => len_in_lowest_terms h) (fun _ _ _ _ _ _ us hl => match us, hl with | [_, _], _ => rfl) (fun cdv A outer s H E hr => w_in_lowest_terms T cdv A outer s H E hr) (fun vs H Q E h => pure_in_lowest_terms T h)
theorem fraction_is (p : Nat) : TimBase.fraction ((p : Rat) / 1000000000) = [((p / Nat.gcd p 1000000000 : Nat) : Int), ((1000000000 / Nat.gcd p 1000000000 : Nat) : Int)] := by
  have e : (p : Rat) / 1000000000 = mkRat (p : Int) 1000000000 := by
    rw [Rat.mkRat_eq_div]
    rfl
  rw [e]
  unfold TimBase.fraction
  rw [mkRat, dif_neg (by decide), Rat.normalize_eq]
  show [((p : Int) / ((Nat.gcd p 1000000000 : Nat) : Int)), (((1000000000 / Nat.gcd p 1000000000 : Nat)) : Int)] = _
  exact congrArg (fun z => [z, (((1000000000 / Nat.gcd p 1000000000 : Nat)) : Int)]) (Int.natCast_ediv p (Nat.gcd p 1000000000)).symm
end
end Sb
end
section
set_option maxHeartbeats 4000000
namespace Sb
open PySem PySem.Spec PySem.Calls PyProof.Rows L2 Evl
open TimBuck (Stem Product Piece diameterIn Log)
theorem stem_is {S : Wrtibu.State} (hb : S.stem.isNone = false) : ∃ s, S.stem = some s := Option.isSome_iff_exists.mp (by rw [← Option.not_isNone, hb]; rfl)
section
variable {K : PySem.W.Frag} {σ : L2.St} {H : Hp} {D : Ends} {ta tb te : TE}
theorem el_listT {p : Addr} {xs : List V} (ha : Ev ta σ H (.ref p)) (h : SqT K H p xs) : EvL (tCB (rListS K) (tCons ta tNil)) σ H xs := fun H1 e Q q =>
  ha H1 e _ fun H2 e2 => ⟨p, xs, rfl, .inr (ex_t (e.trans e2) h), fun l hl => q l _ (fresh_back e2 hl) (e2.trans (Ex.new hl)) upd_same⟩
/-- xs.extend(a new list) -/
theorem s_ext {l : Addr} {xs ys : List V} (hl : H l = some (.lst xs)) (ha : Ev ta σ H (.ref l)) (h : EvL te σ H ys) (hz : xs.length + ys.length ≤ 16777216) (k : ∀ H1, Ex H H1 → D.nx σ (upd H1 l (.lst (xs ++ ys)))) :
    tDrop (tBM K "list" rExtend ta (tCons te tNil)) D σ H := ha H (Ex.refl H) _ fun H1 e1 =>
  ⟨Or.inl ⟨rfl, xs, sq_of (e1 l _ hl)⟩, h H1 e1 _ fun p H2 hp e2 h2 => ⟨l, p, xs, ys, rfl, rfl, e2 l _ (e1 l _ hl), h2, Nat.le_trans hz (by decide), k H2 (e1.trans e2)⟩⟩
end
section
variable {P : Program} {w : World} {K : PySem.W.Frag} {mg : Str → Option Value} {base : Heap} {vs : List V} {H : Hp} {Q : VK} {E : XK}
abbrev sp_tell_litres (K : PySem.W.Frag) : Sp := spDeed K 2 fun ws _ => .litres (ws.getD 0 0) (ws.getD 1 0)
theorem len_tell_litres (h : sp_tell_litres K vs H Q E) : vs.length = 3 := spDeed_len h
abbrev NL_tell_litres : List Str := ["desk", "wholes", "row", "a", "length", "parts"]
theorem sc_tell_litres : FnScope NL_tell_litres ["desk", "wholes", "row"] (defScope s_tell_litres) := ⟨rfl, rfl, rfl, by decide +kernel, rfl, by decide +kernel, by decide +kernel⟩
def t_tell_litres (K : PySem.W.Frag) : TS := (tSeq (tAsg (tVar 1) (gUnl K 2 (gCons (gName 3) (gCons (gName 4) gNil))))
    (tSeq (tIfS (tOr (tNot (tB (tCall (sp_is_ten K) [] E0 (tCons (tVar 3) tNil)))) (tNot (tB (tCall (sp_is_length K) [] E0 (tCons (tVar 4) tNil))))) (tRet (tLst (tCons (tC (.int (-1))) tNil))) tNext)
    (tSeq (tIfS (tTest (tOp rIsN (tFld K (tVar 0) "stem") (tC .non))) (tRet (tLst (tCons (tC (.int (-3))) tNil))) tNext)
    (tSeq (tIfS (tTest (tOp (rI0 fun i j => .bl (decide (j < i))) (tOp (rI0 fun i j => .int (i + j)) (tVar 3) (tVar 4)) (tFld K (tFld K (tVar 0) "stem") "top"))) (tRet (tLst (tCons (tC (.int (-4))) tNil))) tNext)
    (tSeq (tAsg (tCall (sp_parts_of K) [] E0 (tCons (tMeth (He.ga K "Stem") "width" (sp_Stem_width K) [] E0 (tFld K (tVar 0) "stem") (tCons (tOp (rI0 fun i j => .int (i + j)) (tVar 3) (tOp (rI CDiv fun i j => .int (i / j)) (tVar 4) (tC (.int 2)))) tNil)) (tCons (tVar 4) tNil))) (gName 5))
    (tRet (tOp rCat (tLst (tCons (tC (.int 0)) tNil)) (tCall (sp_in_lowest_terms K) [] E0 (tCons (tVar 5) (tCons (tC (.int (1000000000))) tNil))))))))))
theorem w_tell_litres (T : Txt K mg) (cdv : Value) (A : Around) (outer : List Env) (s : Shared) (H : Hp) (E : XK) (hr : Room 4 (A.deeper (envOfC "tell_litres" (defScope s_tell_litres) s.heap.objs.size (He.fAd K ("tell_litres", none)) cdv))) :
    PSs (cxOf CX0 P w K mg base NL_tell_litres "tell_litres" (defScope s_tell_litres) (He.fAd K ("tell_litres", none)) cdv A outer s H E).nox (defBody s_tell_litres) (t_tell_litres K) := by
  exact (pss_cons (ps_asg (pv 1) (pg_unl rfl (pgs_cons (pg_name (i := 3) sc_tell_litres.nd rfl (.inl rfl)) (pgs_cons (pg_name (i := 4) sc_tell_litres.nd rfl (.inl rfl)) pgs_nil))))
    (pss_cons (ps_if (PW.pt (pw_or (pt_not (pt_val (pe_callG (ok_is_ten T) (hr.mono (by decide)) rfl (T.glo 2 rfl) (pa_cons (pv 3) pa_nil)))) (pw_or1 (pt_not (pt_val (pe_callG (ok_is_length T) (hr.mono (by decide)) rfl (T.glo 3 rfl) (pa_cons (pv 4) pa_nil))))))) (pss_one (ps_ret (pe_lst (pa_cons (pe_gi rfl (T.int 87 rfl)) pa_nil)))) pss_nil)
    (pss_cons (ps_if (pt_cmpR op_isN (pe_fld (pv 0) rfl) (by exact pe_non) (nomark _)) (pss_one (ps_ret (pe_lst (pa_cons (pe_gi rfl (T.int 88 rfl)) pa_nil)))) pss_nil)
    (pss_cons (ps_if (pt_cmpR op_gt (pe_op op_add (pv 3) (pv 4)) (pe_fld (pe_fld (pv 0) rfl) rfl) (nomark _)) (pss_one (ps_ret (pe_lst (pa_cons (pe_gi rfl (T.int 89 rfl)) pa_nil)))) pss_nil)
    (pss_cons (ps_set (i := 5) sc_tell_litres.nd rfl (.inl rfl) (pe_callG (ok_parts_of T) (hr.mono (by decide)) rfl (T.glo 21 rfl) (pa_cons (pe_methG (pe_fld (pv 0) rfl) (T.cls 101 rfl) (T.meth 111 rfl) (ok_Stem_width T) (hr.mono (by decide)) (pa_cons (pe_op op_add (pv 3) (pe_op op_fdiv (pv 4) (by exact pe_int))) pa_nil)) (pa_cons (pv 4) pa_nil))))
    (pss_one (ps_ret (pe_op op_cat (pe_lst (pa_cons (by exact pe_int) pa_nil)) (pe_callG (ok_in_lowest_terms T) (hr.mono (by decide)) rfl (T.glo 68 rfl) (pa_cons (pv 5) (pa_cons (pe_gi rfl (T.int 100 rfl)) pa_nil)))))))))))
theorem pure_tell_litres (T : Txt K mg) (h : sp_tell_litres K vs H Q E) : t_tell_litres K { nx := fun _ H' => Q .non H', rt := Q } (start NL_tell_litres vs) H := by
  obtain ⟨A, S, aW, ws, aR, rs, rfl, hA, hW, hR, hn, hr, k⟩ := h
  match ws, hn with
  | [a, l], _ =>
  refine q_unL (σ' := [some (.ref A.d), some (.ref aW), some (.ref aR), some (.int a), some (.int l), none]) (ev_var rfl) hW rfl (fun H' Q q => ⟨_, _, rfl, _, _, rfl, rfl, q⟩) fun H1 e1 => ?_
  refine q_when (et_or (et_not (et_B (ev_I1 (ev_var rfl)))) fun _ => et_not (et_B (ev_I1 (ev_var rfl)))) (fun hb H2 e2 => k.ret1 hA ?_ (e1.trans e2) rfl) (fun hb H2 e2 => ?_)
  · have hx : (Wrtibu.isTen a && Wrtibu.isLong l) = false := not_t (by rw [Bool.not_and]; exact hb)
    show (S, if (Wrtibu.isTen a && Wrtibu.isLong l) = false then _ else _) = _
    rw [if_pos hx]
    rfl
  have hx : (Wrtibu.isTen a && Wrtibu.isLong l) = true := not_f (by rw [Bool.not_and]; exact hb)
  replace e1 := e1.trans e2
  have st : Wrtibu.step S (.litres a l) = (S, Wrtibu.onStem S fun s => if (s.top : Int) < a + l then TimBase.CANT else 0 :: TimBase.fraction ((TimBase.parts (s.diameter (a.toNat + l.toNat / 2)) l.toNat : Rat) / 1000000000)) := by
    show (S, if (Wrtibu.isTen a && Wrtibu.isLong l) = false then _ else _) = _
    rw [if_neg (by rw [hx]; decide)]
  unfold Wrtibu.onStem at st
  clear hb e2
  refine q_when (et_test (ev_noStem T (ev_var rfl) (hA.mono e1))) (fun hb H3 e3 => k.ret1 hA ?_ (e1.trans e3) rfl) (fun hb H3 e3 => ?_)
  · have hS : S.stem = none := Option.isNone_iff_eq_none.mp hb
    refine st.trans ?_
    rw [hS]
    rfl
  replace e1 := e1.trans e3
  obtain ⟨s, hS⟩ := stem_is hb
  obtain ⟨B, hB, hs⟩ := hA.st_some hS
  rw [hS] at st
  rw [Bool.and_eq_true] at hx
  obtain ⟨an, rfl, a1, a2⟩ := isTen_nat hx.1
  obtain ⟨ln, rfl, l1, l2, l3⟩ := isLong_nat hx.2
  have hs1 := hs.mono e1
  have hst : ∀ {v : Option V}, Ev (tFld K (tVar 0) "stem") [some (.ref A.d), some (.ref aW), some (.ref aR), some (.int (an : Int)), some (.int (ln : Int)), v] H3 (.ref B.s) := evD_st T (ev_var rfl) (hA.mono e1) hB
  refine q_when (et_test (ev_gt (ev_add (ev_var rfl) (ev_var rfl)) (evS_top T hst hs1))) (fun hb H4 e4 => k.ret1 hA ?_ (e1.trans e4) rfl) (fun hb H4 e4 => ?_)
  · refine st.trans ?_
    show (S, if (s.top : Int) < (an : Int) + (ln : Int) then _ else _) = _
    rw [if_pos (of_decide_eq_true hb)]
    rfl
  have hle := of_decide_eq_false hb
  have ht : an + ln ≤ s.top := by omega
  have hd := hs.ok.dia (x := an + ln / 2) (by omega)
  refine q_asg (ev_parts_of (ev_S1 (x := an + ln / 2) (hst.mono e4) (hs1.mono e4) (stF_no (by decide +kernel)) (ev_int (ev_add (ev_var rfl) (ev_div (ev_var rfl) ev_c (by decide))) (by omega)) ⟨by omega, by omega⟩) (ev_var rfl) hd l2) fun H5 e5 => ?_
  refine k.ret (out := 0 :: TimBase.fraction ((TimBase.parts (s.diameter (an + ln / 2)) ln : Rat) / 1000000000)) hA (el_cat (el_lst (ea_cons ev_c ea_nil) (by show 1 ≤ 100000; decide)) (el_call (ea_cons (ev_var rfl) (ea_cons ev_c ea_nil)) fun H6 e6 Q' q _ => ⟨TimBase.parts (s.diameter (an + ln / 2)) ln, 1000000000, rfl, by decide, by decide, q⟩) (by show 1 + 2 ≤ 100000; decide)) (st.trans ?_) ?_ ((e1.trans e4).trans e5) rfl
  · show (S, if (s.top : Int) < (an : Int) + (ln : Int) then _ else _) = _
    rw [if_neg (by omega)]
    rfl
  · rw [fraction_is]
    rfl
theorem ok_tell_litres (T : Txt K mg) : Good P w K mg base ("tell_litres", none) 5 ["desk", "wholes", "row"] (sp_tell_litres K) :=
  good_mk (d := d_tell_litres) T 86 rfl rfl rfl sc_tell_litres (fun vs H Q E h => len_tell_litres h) (fun _ _ _ _ _ _ us hl => match us, hl with | [_, _, _], _ => rfl) (fun cdv A outer s H E hr => w_tell_litres T cdv A outer s H E hr) (fun vs H Q E h => pure_tell_litres T h)
/-! ## calls 23, 25 -/
theorem encI_told (p : Piece) : encI p = Wrtibu.pieceTold p := by
  obtain ⟨o, b, l, v⟩ := p
  cases o <;> rfl
theorem flat_len4 : ∀ l : List Piece, (l.flatMap encI).length = 4 * l.length
  | [] => rfl
  | p :: l => by
    rw [List.flatMap_cons, List.length_append, flat_len4 l, List.length_cons]
    show 4 + 4 * l.length = 4 * (l.length + 1)
    omega
abbrev sp_tell_pieces (K : PySem.W.Frag) : Sp := spDeed K 0 fun _ _ => .pieces
theorem len_tell_pieces (h : sp_tell_pieces K vs H Q E) : vs.length = 3 := spDeed_len h
abbrev NL_tell_pieces : List Str := ["desk", "wholes", "row", "told", "piece"]
theorem sc_tell_pieces : FnScope NL_tell_pieces ["desk", "wholes", "row"] (defScope s_tell_pieces) := ⟨rfl, rfl, rfl, by decide +kernel, rfl, by decide +kernel, by decide +kernel⟩
def t_tell_pieces (K : PySem.W.Frag) : TS := (tSeq (tIfS (tTest (tOp rIsN (tFld K (tVar 0) "stem") (tC .non))) (tRet (tLst (tCons (tC (.int (-3))) tNil))) tNext)
    (tSeq (tAsg (tLst (tCons (tC (.int 0)) (tCons (tCB (rLenS K) (tCons (tFld K (tFld K (tVar 0) "stem") "pieces") tNil)) tNil))) (gName 3))
    (tSeq (tFor (iList K (tFld K (tFld K (tVar 0) "stem") "pieces")) (gName 4) (tDrop (tBM K "list" rExtend (tVar 3) (tCons (tCB (rListS K) (tCons (tVar 4) tNil)) tNil))))
    (tRet (tVar 3)))))
theorem w_tell_pieces (T : Txt K mg) (cdv : Value) (A : Around) (outer : List Env) (s : Shared) (H : Hp) (E : XK) (hr : Room 0 (A.deeper (envOfC "tell_pieces" (defScope s_tell_pieces) s.heap.objs.size (He.fAd K ("tell_pieces", none)) cdv))) :
    PSs (cxOf CX0 P w K mg base NL_tell_pieces "tell_pieces" (defScope s_tell_pieces) (He.fAd K ("tell_pieces", none)) cdv A outer s H E).nox (defBody s_tell_pieces) (t_tell_pieces K) := by
  exact (pss_cons (ps_if (pt_cmpR op_isN (pe_fld (pv 0) rfl) (by exact pe_non) (nomark _)) (pss_one (ps_ret (pe_lst (pa_cons (pe_gi rfl (T.int 88 rfl)) pa_nil)))) pss_nil)
    (pss_cons (ps_set (i := 3) sc_tell_pieces.nd rfl (.inl rfl) (pe_lst (pa_cons (by exact pe_int) (pa_cons (pe_callB call_len_seq rfl (T.free 78 rfl) (by decide +kernel) (pa_cons (pe_fld (pe_fld (pv 0) rfl) rfl) pa_nil)) pa_nil))))
    (pss_cons (ps_for PassesOwn.never rfl (pi_list (pe_fld (pe_fld (pv 0) rfl) rfl)) (pg_name (i := 4) sc_tell_pieces.nd rfl (.inl rfl)) (pss_one (ps_expr (pe_bm PySem.F.plainAttrs_list PySem.F.slot_list_extend PySem.F.type_list_extend mt_extend (pv 3) (pa_cons (pe_callTy call_list_of rfl (T.free 85 rfl) (by decide +kernel) (pa_cons (pv 4) pa_nil)) pa_nil)))))
    (pss_one (ps_ret (pv 3))))))
theorem pure_tell_pieces (T : Txt K mg) (h : sp_tell_pieces K vs H Q E) : t_tell_pieces K { nx := fun _ H' => Q .non H', rt := Q } (start NL_tell_pieces vs) H := by
  obtain ⟨A, S, aW, ws, aR, rs, rfl, hA, hW, hR, hn, hr, k⟩ := h
  have st : Wrtibu.step S .pieces = (S, Wrtibu.onStem S fun s => 0 :: (s.done.length : Int) :: s.done.reverse.flatMap Wrtibu.pieceTold) := rfl
  unfold Wrtibu.onStem at st
  refine q_when (et_test (ev_noStem T (ev_var rfl) hA)) (fun hb H3 e3 => k.ret1 hA ?_ e3 rfl) (fun hb H3 e3 => ?_)
  · have hS : S.stem = none := Option.isNone_iff_eq_none.mp hb
    refine st.trans ?_
    rw [hS]
    rfl
  obtain ⟨s, hS⟩ := stem_is hb
  obtain ⟨B, hB, hs⟩ := hA.st_some hS
  rw [hS] at st
  have hp := hs.ok.pieces
  have hl : B.tI.length = s.done.length := by rw [hs.piT.length, List.length_map, List.length_reverse]
  have hst : ∀ {H' : Hp} {v u : Option V}, Ex H H' → Ev (tFld K (tFld K (tVar 0) "stem") "pieces") [some (.ref A.d), some (.ref aW), some (.ref aR), u, v] H' (.ref B.aI) := fun e => evS_pieces T (evD_st T (ev_var rfl) (hA.mono e) hB) (hs.mono e)
  refine q_asgL (el_lst (ea_cons ev_c (ea_cons (ev_is (ev_len (hst e3) (sq_of (e3 _ _ hs.pie))) (by rw [List.length_map, hl])) ea_nil)) (by show 2 ≤ 100000; decide)) fun L H4 hL e4 h4 => ?_
  refine q_forLn (K := K) (hst (e3.trans e4)) (sq_of ((e3.trans e4) _ _ hs.pie)) (fun i σ' H' => ∃ u : Option V, σ' = [some (.ref A.d), some (.ref aW), some (.ref aR), some (.ref L), u] ∧ Ex H H' ∧ H' L = some (.lst ((0 :: (s.done.length : Int) :: (s.done.reverse.take i).flatMap encI).map V.int))) (fun H5 e5 => ⟨none, rfl, (e3.trans e4).trans e5, e5 _ _ h4⟩) (fun i σ' H' _ ⟨_, _, e, _⟩ => sq_of (e _ _ hs.pie)) ?_ ?_
  · rintro i x σ' H' hx ⟨u, rfl, e, h5⟩
    obtain ⟨t, ht, rfl⟩ := map_at hx
    obtain ⟨κ, hκ, hT⟩ := tups_get hs.piT ht
    obtain ⟨q, hq, rfl⟩ := map_at hκ
    have hil := (List.getElem?_eq_some_iff.mp hq).1
    rw [List.length_reverse] at hil
    refine s_ext h5 (ev_var rfl) (el_listT (ev_var rfl) (ex_t e hT)) ?_ fun H6 e6 => ⟨_, rfl, Ex.mut (e.trans e6) (fresh_back e3 hL), ?_⟩
    · rw [List.length_map, List.length_map, List.length_cons, List.length_cons, flat_len4, List.length_take]
      show _ + 4 ≤ _
      omega
    · rw [upd_same, get_take hq, List.flatMap_append, ← List.map_append]
      congr 2
  · rintro σ' H' ⟨u, rfl, e, h5⟩
    have e0 : s.done.reverse.take (B.tI.map V.ref).length = s.done.reverse := by rw [List.length_map, hl, ← List.length_reverse, List.take_length]
    rw [e0] at h5
    have e1 : encI = Wrtibu.pieceTold := funext encI_told
    rw [e1] at h5
    exact s_ret (ev_var rfl) fun H6 e6 => k.fin st (hA.mono (e.trans e6)) (Fr.of_ex (e.trans e6)) (fresh_back e3 hL) (e6 _ _ h5)
theorem ok_tell_pieces (T : Txt K mg) : Good P w K mg base ("tell_pieces", none) 1 ["desk", "wholes", "row"] (sp_tell_pieces K) :=
  good_mk (d := d_tell_pieces) T 90 rfl rfl rfl sc_tell_pieces (fun vs H Q E h => len_tell_pieces h) (fun _ _ _ _ _ _ us hl => match us, hl with | [_, _, _], _ => rfl) (fun cdv A outer s H E hr => w_tell_pieces T cdv A outer s H E hr) (fun vs H Q E h => pure_tell_pieces T h)
theorem total_app : ∀ l m : List Nat, TimBase.total (l ++ m) = TimBase.total l + TimBase.total m
  | [], m => (Nat.zero_add _).symm
  | a :: l, m => by
    show a + TimBase.total (l ++ m) = a + TimBase.total l + TimBase.total m
    rw [total_app l m, Nat.add_assoc]
theorem total_rev : ∀ l : List Nat, TimBase.total l.reverse = TimBase.total l
  | [] => rfl
  | a :: l => by
    rw [List.reverse_cons, total_app, total_rev l]
    show TimBase.total l + (a + 0) = a + TimBase.total l
    omega
theorem chn_mem : ∀ {l : List Piece} {f : Nat}, Chn l f → ∀ p ∈ l, p.begins % 10 = 0 ∧ (p.begins + p.long + p.over) % 10 = 0 ∧ p.begins + p.long + p.over ≤ f
  | [], _, _, p, h => absurd h List.not_mem_nil
  | q :: l, f, ⟨h1, ⟨h2, h3, h4, h5, _⟩, h6⟩, p, h => by
    rcases List.mem_cons.mp h with rfl | h
    · exact ⟨h2, by omega, by omega⟩
    · have := chn_mem h6 p h
      exact ⟨this.1, this.2.1, by omega⟩
def pp (s : Stem) (b : Bool) (l : List Piece) : Nat := TimBase.total ((l.filter fun (p : Piece) => p.product.isSome == b).map fun p => TimBuck.cellsParts s p.begins (p.begins + p.long + p.over))
theorem pp_snoc (s : Stem) (b : Bool) (l : List Piece) (p : Piece) : pp s b (l ++ [p]) = pp s b l + if (p.product.isSome == b) = true then TimBuck.cellsParts s p.begins (p.begins + p.long + p.over) else 0 := by
  unfold pp
  rw [List.filter_append, List.map_append, total_app, List.filter_cons]
  split
  · rfl
  · rfl
theorem pp_rev (s : Stem) (b : Bool) : pp s b s.done.reverse = Wrtibu.piecesParts s b := by
  unfold pp Wrtibu.piecesParts
  rw [List.filter_reverse, List.map_reverse, total_rev]
abbrev sp_tell_whole (K : PySem.W.Frag) : Sp := spDeed K 0 fun _ _ => .whole
theorem len_tell_whole (h : sp_tell_whole K vs H Q E) : vs.length = 3 := spDeed_len h
abbrev NL_tell_whole : List Str := ["desk", "wholes", "row", "stem", "in_logs", "in_waste", "begin", "product", "length", "over", "parts"]
theorem sc_tell_whole : FnScope NL_tell_whole ["desk", "wholes", "row"] (defScope s_tell_whole) := ⟨rfl, rfl, rfl, by decide +kernel, rfl, by decide +kernel, by decide +kernel⟩
def t_tell_whole (K : PySem.W.Frag) : TS := (tSeq (tIfS (tTest (tOp rIsN (tFld K (tVar 0) "stem") (tC .non))) (tRet (tLst (tCons (tC (.int (-3))) tNil))) tNext)
    (tSeq (tAsg (tFld K (tVar 0) "stem") (gName 3))
    (tSeq (tAsg (tC (.int 0)) (gName 4))
    (tSeq (tAsg (tC (.int 0)) (gName 5))
    (tSeq (tFor (iList K (tFld K (tVar 3) "pieces")) (gTup K 4 (gCons (gName 6) (gCons (gName 7) (gCons (gName 8) (gCons (gName 9) gNil))))) (tSeq (tAsg (tMeth (He.ga K "Stem") "cells_parts" (sp_Stem_cells_parts K) [] E0 (tVar 3) (tCons (tVar 6) (tCons (tOp (rI0 fun i j => .int (i + j)) (tOp (rI0 fun i j => .int (i + j)) (tVar 6) (tVar 8)) (tVar 9)) tNil))) (gName 10))
    (tIfS (tTest (tOp rEq (tVar 7) (tUn (rU fun i => .int (-i)) (tC (.int 1))))) (tAug 5 (tVar 10) (ipI fun i j => i + j)) (tAug 4 (tVar 10) (ipI fun i j => i + j)))))
    (tRet (tLst (tCons (tC (.int 0)) (tCons (tVar 4) (tCons (tVar 5) (tCons (tMeth (He.ga K "Stem") "cells_parts" (sp_Stem_cells_parts K) [] E0 (tVar 3) (tCons (tMeth (He.ga K "Stem") "foot" (sp_Stem_foot K) [] E0 (tVar 3) tNil) (tCons (tFld K (tVar 3) "top") tNil))) tNil)))))))))))
theorem w_tell_whole (T : Txt K mg) (cdv : Value) (A : Around) (outer : List Env) (s : Shared) (H : Hp) (E : XK) (hr : Room 2 (A.deeper (envOfC "tell_whole" (defScope s_tell_whole) s.heap.objs.size (He.fAd K ("tell_whole", none)) cdv))) :
    PSs (cxOf CX0 P w K mg base NL_tell_whole "tell_whole" (defScope s_tell_whole) (He.fAd K ("tell_whole", none)) cdv A outer s H E).nox (defBody s_tell_whole) (t_tell_whole K) := by
  exact (pss_cons (ps_if (pt_cmpR op_isN (pe_fld (pv 0) rfl) (by exact pe_non) (nomark _)) (pss_one (ps_ret (pe_lst (pa_cons (pe_gi rfl (T.int 88 rfl)) pa_nil)))) pss_nil)
    (pss_cons (ps_set (i := 3) sc_tell_whole.nd rfl (.inl rfl) (pe_fld (pv 0) rfl))
    (pss_cons (ps_set (i := 4) sc_tell_whole.nd rfl (.inl rfl) (by exact pe_int))
    (pss_cons (ps_set (i := 5) sc_tell_whole.nd rfl (.inl rfl) (by exact pe_int))
    (pss_cons (ps_for PassesOwn.never rfl (pi_list (pe_fld (pv 3) rfl)) (pg_tup rfl (pgs_cons (pg_name (i := 6) sc_tell_whole.nd rfl (.inl rfl)) (pgs_cons (pg_name (i := 7) sc_tell_whole.nd rfl (.inl rfl)) (pgs_cons (pg_name (i := 8) sc_tell_whole.nd rfl (.inl rfl)) (pgs_cons (pg_name (i := 9) sc_tell_whole.nd rfl (.inl rfl)) pgs_nil))))) (pss_cons (ps_set (i := 10) sc_tell_whole.nd rfl (.inl rfl) (pe_methG (pv 3) (T.cls 101 rfl) (T.meth 114 rfl) (ok_Stem_cells_parts T) (hr.mono (by decide)) (pa_cons (pv 6) (pa_cons (pe_op op_add (pe_op op_add (pv 6) (pv 8)) (pv 9)) pa_nil))))
    (pss_one (ps_if (pt_cmpR op_eq (pv 7) (pe_un un_neg (by exact pe_int)) (nomark _)) (pss_one (ps_aug (i := 5) sc_tell_whole.nd rfl (.inl rfl) (pv 10) ip_add)) (pss_one (ps_aug (i := 4) sc_tell_whole.nd rfl (.inl rfl) (pv 10) ip_add))))))
    (pss_one (ps_ret (pe_lst (pa_cons (by exact pe_int) (pa_cons (pv 4) (pa_cons (pv 5) (pa_cons (pe_methG (pv 3) (T.cls 101 rfl) (T.meth 114 rfl) (ok_Stem_cells_parts T) (hr.mono (by decide)) (pa_cons (pe_methG0 (pv 3) (T.cls 101 rfl) (T.meth 110 rfl) (ok_Stem_foot T) (hr.mono (by decide))) (pa_cons (pe_fld (pv 3) rfl) pa_nil))) pa_nil))))))))))))
theorem pure_tell_whole (T : Txt K mg) (h : sp_tell_whole K vs H Q E) : t_tell_whole K { nx := fun _ H' => Q .non H', rt := Q } (start NL_tell_whole vs) H := by
  obtain ⟨A, S, aW, ws, aR, rs, rfl, hA, hW, hR, hn, hr, k⟩ := h
  have st : Wrtibu.step S .whole = (S, Wrtibu.onStem S fun s => [0, (Wrtibu.piecesParts s true : Int), (Wrtibu.piecesParts s false : Int), (TimBuck.cellsParts s s.foot s.top : Int)]) := rfl
  unfold Wrtibu.onStem at st
  refine q_when (et_test (ev_noStem T (ev_var rfl) hA)) (fun hb H3 e3 => k.ret1 hA ?_ e3 rfl) (fun hb H3 e3 => ?_)
  · have hS : S.stem = none := Option.isNone_iff_eq_none.mp hb
    refine st.trans ?_
    rw [hS]
    rfl
  obtain ⟨s, hS⟩ := stem_is hb
  obtain ⟨B, hB, hs⟩ := hA.st_some hS
  rw [hS] at st
  refine q_asg (evD_st T (ev_var rfl) (hA.mono e3) hB) fun H4 e4 => ?_
  refine q_asg ev_c fun H5 e5 => ?_
  refine q_asg ev_c fun H6 e6 => ?_
  have e' : Ex H H6 := ((e3.trans e4).trans e5).trans e6
  refine q_forTup (H0 := H) (evS_pieces T (ev_var rfl) (hs.mono e')) (sq_of hs.pie) hs.piT (fun i σ' H' => ∃ (u v x y z : Option V), σ' = [some (.ref A.d), some (.ref aW), some (.ref aR), some (.ref B.s), some (.int ((pp s true (s.done.reverse.take i) : Nat) : Int)), some (.int ((pp s false (s.done.reverse.take i) : Nat) : Int)), u, v, x, y, z] ∧ Ex H H')
    (fun H7 e7 => ⟨none, none, none, none, none, rfl, e'.trans e7⟩) (fun i σ' H' ⟨_, _, _, _, _, _, e⟩ => e) ?_ ?_
  · rintro i κ σ' H' hκ ⟨u, v, x, y, z, rfl, e⟩
    obtain ⟨p, hp, rfl⟩ := map_at hκ
    refine ⟨rfl, _, _, rfl, _, _, rfl, _, _, rfl, _, _, rfl, rfl, ?_⟩
    obtain ⟨c1, c2, c3⟩ := chn_mem hs.ok.chn p (List.mem_reverse.mp (List.mem_of_getElem? hp))
    have hf := hs.ok.foot
    show tSeq _ _ _ [some (.ref A.d), some (.ref aW), some (.ref aR), some (.ref B.s), some (.int ((pp s true (s.done.reverse.take i) : Nat) : Int)), some (.int ((pp s false (s.done.reverse.take i) : Nat) : Int)), some (.int (p.begins : Int)), some (.int (prodI p.product)), some (.int (p.long : Int)), some (.int (p.over : Int)), z] H'
    refine q_asg (ev_S2 (a := p.begins) (b := p.begins + p.long + p.over) (ev_var rfl) (hs.mono e) (stF_no (by decide +kernel)) (ev_var rfl) (ev_int (ev_add (ev_add (ev_var rfl) (ev_var rfl)) (ev_var rfl)) (by omega)) ⟨c1, c2, by omega, by omega⟩) fun H7 e7 => ?_
    refine s_if (et_test (ev_eqi (ev_var rfl) (ev_neg ev_c))) (fun hb H8 e8 => s_aug rfl (ev_var rfl) fun H9 e9 => ⟨some (.int (p.begins : Int)), some (.int (prodI p.product)), some (.int (p.long : Int)), some (.int (p.over : Int)), some (.int ((TimBuck.cellsParts s p.begins (p.begins + p.long + p.over) : Nat) : Int)), ?_, ((e.trans e7).trans e8).trans e9⟩) (fun hb H8 e8 => s_aug rfl (ev_var rfl) fun H9 e9 => ⟨some (.int (p.begins : Int)), some (.int (prodI p.product)), some (.int (p.long : Int)), some (.int (p.over : Int)), some (.int ((TimBuck.cellsParts s p.begins (p.begins + p.long + p.over) : Nat) : Int)), ?_, ((e.trans e7).trans e8).trans e9⟩)
    · have ho : p.product = none := by
        cases h : p.product with
        | none => rfl
        | some n =>
          rw [h] at hb
          exact absurd (eq_of_beq hb) (by show ¬ ((n : Nat) : Int) = -1; omega)
      rw [get_take hp, pp_snoc, pp_snoc, ho]
      show [_, _, _, _, _, some (V.int (((pp s false (s.done.reverse.take i) : Nat) : Int) + ((TimBuck.cellsParts s p.begins (p.begins + p.long + p.over) : Nat) : Int))), _, _, _, _, _] = _
      rw [← Int.natCast_add]
      rfl
    · obtain ⟨n, ho⟩ : ∃ n, p.product = some n := by
        cases h : p.product with
        | none =>
          rw [h] at hb
          cases hb
        | some n => exact ⟨n, rfl⟩
      rw [get_take hp, pp_snoc, pp_snoc, ho]
      show [_, _, _, _, some (V.int (((pp s true (s.done.reverse.take i) : Nat) : Int) + ((TimBuck.cellsParts s p.begins (p.begins + p.long + p.over) : Nat) : Int))), _, _, _, _, _, _] = _
      rw [← Int.natCast_add]
      rfl
  · rintro σ' H' ⟨u, v, x, y, z, rfl, e⟩
    have e0 : s.done.reverse.take (s.done.reverse.map encI).length = s.done.reverse := by rw [List.length_map, List.take_length]
    rw [e0, pp_rev, pp_rev]
    have hf := hs.ok.foot
    refine k.ret (out := [0, ((Wrtibu.piecesParts s true : Nat) : Int), ((Wrtibu.piecesParts s false : Nat) : Int), ((TimBuck.cellsParts s s.foot s.top : Nat) : Int)]) hA (el_lst (ea_cons ev_c (ea_cons (ev_var rfl) (ea_cons (ev_var rfl) (ea_cons (ev_S2 (ev_var rfl) (hs.mono e) (stF_no (by decide +kernel)) (ev_S0 (ev_var rfl) (hs.mono e) (stF_no (by decide +kernel))) (evS_top T (ev_var rfl) (hs.mono e)) ⟨hs.ok.foot10, hs.ok.top10, hf, Nat.le_refl _⟩) ea_nil)))) (by show 4 ≤ 100000; decide)) st rfl e rfl
theorem ok_tell_whole (T : Txt K mg) : Good P w K mg base ("tell_whole", none) 3 ["desk", "wholes", "row"] (sp_tell_whole K) :=
  good_mk (d := d_tell_whole) T 91 rfl rfl rfl sc_tell_whole (fun vs H Q E h => len_tell_whole h) (fun _ _ _ _ _ _ us hl => match us, hl with | [_, _, _], _ => rfl) (fun cdv A outer s H E hr => w_tell_whole T cdv A outer s H E hr) (fun vs H Q E h => pure_tell_whole T h)
end
end Sb
end
section
set_option maxHeartbeats 4000000
namespace Sb
open TimBuck (Stem Product Piece)
/-! ## rows read as pairs -/
def prs : List Int → List (Int × Int)
  | a :: b :: r => (a, b) :: prs r
  | _ => []
theorem prs_len : ∀ r : List Int, (prs r).length = r.length / 2
  | [] => by simp [prs]
  | [_] => by simp [prs]
  | a :: b :: r => by
    show (prs r).length + 1 = (r.length + 1 + 1) / 2
    rw [prs_len r]
    omega
theorem pairsL_prs : ∀ r : List Int, pairsL r = (prs r).map encQ
  | [] => rfl
  | [_] => rfl
  | a :: b :: r => by
    show [a, b] :: pairsL r = encQ (a, b) :: (prs r).map encQ
    rw [pairsL_prs r]
    rfl
theorem pairs_is : ∀ r : List Int, Wrtibu.pairs r = if r.length % 2 = 0 then some (prs r) else none
  | [] => rfl
  | [_] => rfl
  | a :: b :: r => by
    show (Wrtibu.pairs r).map (fun l => (a, b) :: l) = if (r.length + 1 + 1) % 2 = 0 then some ((a, b) :: prs r) else none
    rw [pairs_is r, show (r.length + 1 + 1) % 2 = r.length % 2 by omega]
    split <;> rfl
theorem evs_prs : ∀ r : List Int, r.length % 2 = 0 → evs r = (prs r).map Prod.fst
  | [], _ => rfl
  | [_], h => by cases h
  | a :: b :: r, h => by
    show a :: evens r = a :: (prs r).map Prod.fst
    rw [← evs_prs r (by rw [List.length_cons, List.length_cons] at h; omega)]
    rfl
theorem ods_prs : ∀ r : List Int, r.length % 2 = 0 → ods r = (prs r).map Prod.snd
  | [], _ => rfl
  | [_], h => by cases h
  | a :: b :: r, h => by
    have ih := ods_prs r (by rw [List.length_cons, List.length_cons] at h; omega)
    show evens (b :: r) = b :: (prs r).map Prod.snd
    rw [← ih]
    cases r with
    | nil => rfl
    | cons c r => rfl
theorem rising_chain (good : Int → Int → Bool) : ∀ l : List (Int × Int), Wrtibu.rising good l = (chain lt2 (l.map Prod.fst) && chain good (l.map Prod.snd))
  | [] => rfl
  | [_] => rfl
  | x :: y :: r => by
    show (decide (x.1 < y.1) && (good x.2 y.2 && Wrtibu.rising good (y :: r))) = ((lt2 x.1 y.1 && chain lt2 ((y :: r).map Prod.fst)) && (good x.2 y.2 && chain good ((y :: r).map Prod.snd)))
    rw [rising_chain good (y :: r)]
    show (decide (x.1 < y.1) && _) = ((decide (x.1 < y.1) && _) && _)
    cases decide (x.1 < y.1) <;> cases good x.2 y.2 <;> cases chain lt2 ((y :: r).map Prod.fst) <;> rfl
theorem chain_true : ∀ l : List Int, chain (fun _ _ => true) l = true
  | [] => rfl
  | [_] => rfl
  | a :: b :: r => chain_true (b :: r)
theorem all_and {α : Type} (f g : α → Bool) : ∀ l : List α, (l.all fun x => f x && g x) = (l.all f && l.all g)
  | [] => rfl
  | a :: r => by
    rw [List.all_cons, List.all_cons, List.all_cons, all_and f g r]
    cases f a <;> cases g a <;> cases r.all f <;> rfl
theorem even_is {r : List Int} : ((r.length : Int) % 2 == 0) = decide (r.length % 2 = 0) := by
  rw [Bool.eq_iff_iff, beq_iff_eq, decide_eq_true_eq]
  omega
theorem in_half {r : List Int} {a b : Nat} : TimBase.within (a : Int) (b : Int) ((r.length : Int) / 2) = (decide (a ≤ (prs r).length) && decide ((prs r).length ≤ b)) := by
  unfold TimBase.within
  rw [prs_len]
  congr 1
  · exact decide_eq_decide.mpr (by omega)
  · exact decide_eq_decide.mpr (by omega)
theorem points_law (r : List Int) : Wrtibu.pointsOf r = if mPoints r = true then some (Wrtibu.nats (prs r)) else none := by
  unfold Wrtibu.pointsOf mPoints oddOr
  rw [pairs_is, even_is, show TimBase.within 2 20 ((r.length : Int) / 2) = (decide (2 ≤ (prs r).length) && decide ((prs r).length ≤ 20)) from in_half]
  by_cases c : r.length % 2 = 0
  · rw [if_pos c, decide_eq_true c]
    show (if _ then some (Wrtibu.nats (prs r)) else none) = _
    congr 1
    rw [evs_prs r c, ods_prs r c, rising_chain, all_and, List.all_map, List.all_map]
    have e : ((prs r).head?.map fun x => x.1) = some 0 ↔ ((prs r).map Prod.fst).headD 1 = 0 := by
      cases prs r with
      | nil => exact ⟨fun h => (by cases h), fun h => (by cases h)⟩
      | cons a l =>
        show some a.1 = some 0 ↔ a.1 = 0
        exact ⟨fun h => Option.some.inj h, fun h => congrArg some h⟩
    have e2 : (((prs r).head?.map fun x => x.1) == some 0) = (((prs r).map Prod.fst).headD 1 == 0) := by
      rw [Bool.eq_iff_iff, beq_iff_eq, beq_iff_eq]
      exact e
    rw [e2]
    show (_ = true) = (_ = true)
    have e3 : (fun d e : Int => decide (e ≤ d)) = ge2 := rfl
    have e4 : (fun x : Int × Int => TimBase.within 0 2000 x.2) = (Wrtibu.isHeight ∘ Prod.snd) := rfl
    have e5 : (fun x : Int × Int => Wrtibu.isTen x.1) = (Wrtibu.isTen ∘ Prod.fst) := rfl
    rw [e3, e4, e5]
    cases decide (2 ≤ (prs r).length) <;> cases decide ((prs r).length ≤ 20) <;> cases (prs r).all (Wrtibu.isTen ∘ Prod.fst) <;> cases (prs r).all (Wrtibu.isHeight ∘ Prod.snd) <;> cases (((prs r).map Prod.fst).headD 1 == 0) <;> cases chain lt2 ((prs r).map Prod.fst) <;> cases chain ge2 ((prs r).map Prod.snd) <;> rfl
  · rw [if_neg c, decide_eq_false c]
    rfl
theorem prices_law (r : List Int) : Wrtibu.pricesOf r = if mPrices r = true then some (Wrtibu.nats (prs r)) else none := by
  unfold Wrtibu.pricesOf mPrices oddOr
  rw [pairs_is, even_is, show TimBase.within 1 10 ((r.length : Int) / 2) = (decide (1 ≤ (prs r).length) && decide ((prs r).length ≤ 10)) from in_half]
  by_cases c : r.length % 2 = 0
  · rw [if_pos c, decide_eq_true c]
    show (if _ then some (Wrtibu.nats (prs r)) else none) = _
    congr 1
    rw [evs_prs r c, ods_prs r c, rising_chain, all_and, List.all_map, List.all_map, chain_true]
    show (_ = true) = (_ = true)
    have e4 : (fun x : Int × Int => TimBase.within 0 10000000 x.2) = (TimBase.within 0 10000000 ∘ Prod.snd) := rfl
    have e5 : (fun x : Int × Int => TimBase.within 0 2000 x.1) = (Wrtibu.isHeight ∘ Prod.fst) := rfl
    rw [e4, e5]
    cases decide (1 ≤ (prs r).length) <;> cases decide ((prs r).length ≤ 10) <;> cases (prs r).all (Wrtibu.isHeight ∘ Prod.fst) <;> cases (prs r).all (TimBase.within 0 10000000 ∘ Prod.snd) <;> cases chain lt2 ((prs r).map Prod.fst) <;> rfl
  · rw [if_neg c, decide_eq_false c]
    rfl
theorem pieces_law (r : List Int) : Wrtibu.cuttingOf r = if mPieces r = true then some ((prs r).map fun (x : Int × Int) => (x.1, x.2.toNat)) else none := by
  unfold Wrtibu.cuttingOf mPieces
  rw [pairs_is, even_is, show decide (200 < (r.length : Int) / 2) = !decide ((prs r).length ≤ 200) by
    rw [prs_len, ← decide_not]
    exact decide_eq_decide.mpr (by omega)]
  by_cases c : r.length % 2 = 0
  · rw [if_pos c, decide_eq_true c]
    show (if _ then some ((prs r).map fun (x : Int × Int) => (x.1, x.2.toNat)) else none) = _
    congr 1
    rw [evs_prs r c, ods_prs r c, all_and, List.all_map, List.all_map]
    show (_ = true) = (_ = true)
    have e4 : (fun x : Int × Int => TimBase.within (-1) 7 x.1) = (TimBase.within (-1) 7 ∘ Prod.fst) := rfl
    have e5 : (fun x : Int × Int => Wrtibu.isLong x.2) = (Wrtibu.isLong ∘ Prod.snd) := rfl
    rw [e4, e5]
    cases decide ((prs r).length ≤ 200) <;> cases (prs r).all (TimBase.within (-1) 7 ∘ Prod.fst) <;> cases (prs r).all (Wrtibu.isLong ∘ Prod.snd) <;> rfl
  · rw [if_neg c, decide_eq_false c]
    rfl
theorem numbers_law (r : List Int) : Wrtibu.mayRow r = mNumbers r := by
  unfold Wrtibu.mayRow mNumbers
  rw [show TimBase.within 1 201 (r.length : Int) = (decide (1 ≤ r.length) && decide (r.length ≤ 201)) by
    unfold TimBase.within
    congr 1
    · exact decide_eq_decide.mpr (by omega)
    · exact decide_eq_decide.mpr (by omega)]
  cases decide (1 ≤ r.length) <;> cases decide (r.length ≤ 201) <;> rfl
theorem product_law (k g f t s u v o : Int) : Wrtibu.mayProduct k g f t s u v o = (Wrtibu.isProduct k && mTerms [g, f, t, s, u, v, o]) := by
  have e : mPaid f t s = (Wrtibu.isTen f && (Wrtibu.isTen t && (Wrtibu.isLong s && (decide (100 ≤ f) && (decide (f ≤ t) && ((t - f) % s == 0 && decide ((t - f) / s ≤ 19))))))) := by
    unfold mPaid
    rw [show decide (f < 100) = !decide (100 ≤ f) by rw [← decide_not]; exact decide_eq_decide.mpr (by omega), show decide (t < f) = !decide (f ≤ t) by rw [← decide_not]; exact decide_eq_decide.mpr (by omega)]
    cases Wrtibu.isTen f <;> cases Wrtibu.isTen t <;> cases Wrtibu.isLong s <;> cases decide (100 ≤ f) <;> cases decide (f ≤ t) <;> rfl
  show Wrtibu.mayProduct k g f t s u v o = (Wrtibu.isProduct k && (TimBase.within 0 9 g && (mPaid f t s && (Wrtibu.isHeight u && (Wrtibu.isHeight v && (Wrtibu.isTen o && decide (o ≤ 90)))))))
  rw [e]
  unfold Wrtibu.mayProduct
  have eo : (TimBase.within 0 90 o && o % 10 == 0) = (Wrtibu.isTen o && decide (o ≤ 90)) := by
    rw [Bool.eq_iff_iff]
    simp only [Wrtibu.isTen, Wrtibu.isHeight, TimBase.within, Bool.and_eq_true, decide_eq_true_eq, beq_iff_eq]
    omega
  rw [eo]
  have et : (decide (100 ≤ t)) = false → (decide (100 ≤ f) && decide (f ≤ t)) = false := fun h => by
    have := of_decide_eq_false h
    rw [Bool.and_eq_false_iff, decide_eq_false_iff_not, decide_eq_false_iff_not]
    omega
  revert et
  cases Wrtibu.isProduct k <;> cases TimBase.within 0 9 g <;> cases Wrtibu.isTen f <;> cases decide (100 ≤ f) <;> cases Wrtibu.isTen t <;> cases decide (100 ≤ t) <;> cases Wrtibu.isLong s <;> cases decide (f ≤ t) <;> cases ((t - f) % s == 0) <;> cases decide ((t - f) / s ≤ 19) <;> intro et <;> first | rfl | cases et rfl
/-! ## what they must be -/
theorem prs_get {r : List Int} (h : r.length % 2 = 0) {i : Nat} {p : Nat × Nat} (hp : (Wrtibu.nats (prs r))[i]? = some p) : ∃ x y : Int, (prs r)[i]? = some (x, y) ∧ p = (x.toNat, y.toNat) ∧ (evs r)[i]? = some x ∧ (ods r)[i]? = some y := by
  unfold Wrtibu.nats at hp
  obtain ⟨⟨x, y⟩, hq, rfl⟩ := map_at hp
  refine ⟨x, y, hq, rfl, ?_, ?_⟩
  · rw [evs_prs r h, List.getElem?_map, hq]
    rfl
  · rw [ods_prs r h, List.getElem?_map, hq]
    rfl
theorem all_at {f : Int → Bool} {l : List Int} (h : l.all f = true) {i : Nat} {x : Int} (hx : l[i]? = some x) : f x = true := List.all_eq_true.mp h x (List.mem_of_getElem? hx)
theorem encP_nats {l : List (Int × Int)} (h : ∀ q ∈ l, 0 ≤ q.1 ∧ 0 ≤ q.2) : (Wrtibu.nats l).map encP = l.map encQ := by
  unfold Wrtibu.nats
  rw [List.map_map]
  apply List.map_congr_left
  intro q hq
  obtain ⟨h1, h2⟩ := h q hq
  show [((q.1.toNat : Nat) : Int), ((q.2.toNat : Nat) : Int)] = [q.1, q.2]
  rw [Int.toNat_of_nonneg h1, Int.toNat_of_nonneg h2]
theorem mem_prs {r : List Int} (h : r.length % 2 = 0) {q : Int × Int} (hq : q ∈ prs r) : q.1 ∈ evs r ∧ q.2 ∈ ods r := by
  rw [evs_prs r h, ods_prs r h]
  exact ⟨List.mem_map.mpr ⟨q, hq, rfl⟩, List.mem_map.mpr ⟨q, hq, rfl⟩⟩
theorem points_ok {r : List Int} (h : mPoints r = true) : r.length % 2 = 0 ∧ PtsOk (Wrtibu.nats (prs r)) ∧ (Wrtibu.nats (prs r)).map encP = pairsL r := by
  unfold mPoints oddOr at h
  rw [even_is, show TimBase.within 2 20 ((r.length : Int) / 2) = (decide (2 ≤ (prs r).length) && decide ((prs r).length ≤ 20)) from in_half] at h
  split at h
  · cases h
  · rename_i hc
    rw [Bool.not_eq_true, Bool.or_eq_false_iff] at hc
    have c := of_decide_eq_true (not_f hc.1)
    have hl := not_f hc.2
    rw [Bool.and_eq_true, decide_eq_true_eq, decide_eq_true_eq] at hl
    rw [Bool.and_eq_true, Bool.and_eq_true, Bool.and_eq_true, Bool.and_eq_true] at h
    obtain ⟨h1, h2, h3, h4, h5⟩ := h
    have nl : (Wrtibu.nats (prs r)).length = (prs r).length := List.length_map _
    refine ⟨c, ⟨by omega, by omega, ?_, fun i p hp => ?_, fun i p q hp hq => ?_⟩, ?_⟩
    · rw [evs_prs r c] at h1
      cases hz : prs r with
      | nil =>
        rw [hz] at hl
        exact absurd hl.1 (by simp)
      | cons a l =>
        rw [hz] at h1
        have : a.1 = 0 := eq_of_beq h1
        refine ⟨a.2.toNat, ?_⟩
        show some (a.1.toNat, a.2.toNat) = _
        rw [this]
        rfl
    · obtain ⟨x, y, _, rfl, e1, e2⟩ := prs_get c hp
      have b1 := isTen_bounds (all_at h2 e1)
      have b2 := isHeight_bounds (all_at h4 e2)
      exact ⟨by omega, by omega, by omega⟩
    · obtain ⟨x, y, _, rfl, e1, e2⟩ := prs_get c hp
      obtain ⟨x', y', _, rfl, e3, e4⟩ := prs_get c hq
      have b1 := isTen_bounds (all_at h2 e1)
      have b2 := isHeight_bounds (all_at h4 e4)
      have := of_decide_eq_true (chain_iff.mp h3 i x x' e1 e3)
      have := of_decide_eq_true (chain_iff.mp h5 i y y' e2 e4)
      exact ⟨by omega, by omega⟩
    · rw [pairsL_prs]
      refine encP_nats fun q hq => ?_
      have m := mem_prs c hq
      have b1 := isTen_bounds (List.all_eq_true.mp h2 _ m.1)
      have b2 := isHeight_bounds (List.all_eq_true.mp h4 _ m.2)
      exact ⟨b1.1, b2.1⟩
theorem prices_ok {r : List Int} (h : mPrices r = true) : r.length % 2 = 0 ∧ (Wrtibu.nats (prs r)).length ≤ 10 ∧ (∀ q ∈ Wrtibu.nats (prs r), q.2 ≤ 10000000) ∧ (Wrtibu.nats (prs r)).map encP = pairsL r := by
  unfold mPrices oddOr at h
  rw [even_is, show TimBase.within 1 10 ((r.length : Int) / 2) = (decide (1 ≤ (prs r).length) && decide ((prs r).length ≤ 10)) from in_half] at h
  split at h
  · cases h
  · rename_i hc
    rw [Bool.not_eq_true, Bool.or_eq_false_iff] at hc
    have c := of_decide_eq_true (not_f hc.1)
    have hl := not_f hc.2
    rw [Bool.and_eq_true, decide_eq_true_eq, decide_eq_true_eq] at hl
    rw [Bool.and_eq_true, Bool.and_eq_true] at h
    obtain ⟨h1, h2, h3⟩ := h
    have nl : (Wrtibu.nats (prs r)).length = (prs r).length := List.length_map _
    have hb : ∀ q ∈ prs r, 0 ≤ q.1 ∧ 0 ≤ q.2 ∧ q.2 ≤ 10000000 := fun q hq => by
      have m := mem_prs c hq
      have b1 := isHeight_bounds (List.all_eq_true.mp h1 _ m.1)
      have b2 := List.all_eq_true.mp h3 _ m.2
      unfold TimBase.within at b2
      rw [Bool.and_eq_true, decide_eq_true_eq, decide_eq_true_eq] at b2
      exact ⟨b1.1, b2.1, b2.2⟩
    refine ⟨c, by omega, fun q hq => ?_, ?_⟩
    · obtain ⟨x, hx, rfl⟩ := List.mem_map.mp hq
      have := hb x hx
      show x.2.toNat ≤ 10000000
      omega
    · rw [pairsL_prs]
      exact encP_nats fun q hq => ⟨(hb q hq).1, (hb q hq).2.1⟩
theorem pieces_ok {r : List Int} (h : mPieces r = true) : r.length % 2 = 0 ∧ (prs r).length ≤ 200 ∧ ∀ q ∈ prs r, -1 ≤ q.1 ∧ q.1 ≤ 7 ∧ 10 ≤ q.2 ∧ q.2 ≤ 2000 ∧ q.2 % 10 = 0 := by
  unfold mPieces at h
  rw [even_is] at h
  split at h
  · cases h
  · rename_i hc
    rw [Bool.not_eq_true, Bool.or_eq_false_iff] at hc
    have c := of_decide_eq_true (not_f hc.1)
    have hl := of_decide_eq_false hc.2
    rw [Bool.and_eq_true] at h
    refine ⟨c, by rw [prs_len]; omega, fun q hq => ?_⟩
    have m := mem_prs c hq
    have b1 := List.all_eq_true.mp h.1 _ m.1
    have b2 := isLong_bounds (List.all_eq_true.mp h.2 _ m.2)
    unfold TimBase.within at b1
    rw [Bool.and_eq_true, decide_eq_true_eq, decide_eq_true_eq] at b1
    exact ⟨b1.1, b1.2, b2.1, b2.2.1, b2.2.2⟩
theorem terms_ok {g f t s u v o : Int} (h : mTerms [g, f, t, s, u, v, o] = true) : ∃ p : Product, ProdOk p ∧ p.prices = [] ∧ p = ⟨g.toNat, f.toNat, t.toNat, s.toNat, u.toNat, v.toNat, o.toNat, []⟩ ∧ [(p.grade : Int), (p.least : Int), (p.most : Int), (p.step : Int), (p.top : Int), (p.butt : Int), (p.over : Int)] = [g, f, t, s, u, v, o] := by
  have z : (TimBase.within 0 9 g && (mPaid f t s && (Wrtibu.isHeight u && (Wrtibu.isHeight v && (Wrtibu.isTen o && decide (o ≤ 90)))))) = true := h
  rw [Bool.and_eq_true, Bool.and_eq_true, Bool.and_eq_true, Bool.and_eq_true, Bool.and_eq_true, decide_eq_true_eq] at z
  obtain ⟨z1, z2, z3, z4, z5, z6⟩ := z
  unfold mPaid at z2
  split at z2
  · cases z2
  · rename_i c1
    split at z2
    · cases z2
    · rename_i c2
      rw [Bool.not_eq_true, Bool.or_eq_false_iff, Bool.or_eq_false_iff] at c1
      rw [Bool.not_eq_true, Bool.or_eq_false_iff, decide_eq_false_iff_not, decide_eq_false_iff_not] at c2
      rw [Bool.and_eq_true, beq_iff_eq, decide_eq_true_eq] at z2
      have bf := isTen_bounds (not_f c1.1)
      have bt := isTen_bounds (not_f c1.2.1)
      have bs := isLong_bounds (not_f c1.2.2)
      have bu := isHeight_bounds z3
      have bv := isHeight_bounds z4
      have bo := isTen_bounds z5
      unfold TimBase.within at z1
      rw [Bool.and_eq_true, decide_eq_true_eq, decide_eq_true_eq] at z1
      obtain ⟨g', rfl⟩ : ∃ n : Nat, g = n := ⟨g.toNat, by omega⟩
      obtain ⟨f', rfl⟩ : ∃ n : Nat, f = n := ⟨f.toNat, by omega⟩
      obtain ⟨t', rfl⟩ : ∃ n : Nat, t = n := ⟨t.toNat, by omega⟩
      obtain ⟨s', rfl⟩ : ∃ n : Nat, s = n := ⟨s.toNat, by omega⟩
      obtain ⟨u', rfl⟩ : ∃ n : Nat, u = n := ⟨u.toNat, by omega⟩
      obtain ⟨v', rfl⟩ : ∃ n : Nat, v = n := ⟨v.toNat, by omega⟩
      obtain ⟨o', rfl⟩ : ∃ n : Nat, o = n := ⟨o.toNat, by omega⟩
      have ed : (t' : Int) - (f' : Int) = ((t' - f' : Nat) : Int) := by omega
      rw [ed] at z2
      refine ⟨⟨g', f', t', s', u', v', o', []⟩, ⟨by show g' ≤ 9; omega, by show f' % 10 = 0; omega, by show t' % 10 = 0; omega, by show 100 ≤ f'; omega, by show f' ≤ t'; omega, by show t' ≤ 2000; omega, by show s' % 10 = 0; omega, by show 10 ≤ s'; omega, by show s' ≤ 2000; omega, ?_, ?_, by show o' % 10 = 0; omega, by show o' ≤ 90; omega, Nat.zero_le _, fun r hr => absurd hr List.not_mem_nil⟩, rfl, rfl, rfl⟩
      · show (t' - f') % s' = 0
        have := z2.1
        rw [← Int.natCast_emod] at this
        omega
      · show (t' - f') / s' ≤ 19
        have := z2.2
        rw [← Int.natCast_ediv] at this
        omega
end Sb
end
section
set_option maxHeartbeats 4000000
namespace Sb
open PySem PySem.Spec PySem.Calls PyProof.Rows L2 Evl
open TimBuck (Stem Product Piece diameterIn Log)
section
variable {P : Program} {w : World} {K : PySem.W.Frag} {mg : Str → Option Value} {base : Heap} {vs : List V} {H : Hp} {Q : VK} {E : XK}
theorem el_one {σ : L2.St} {n : Int} : EvL (tLst (tCons (tC (.int n)) tNil)) σ H [.int n] := el_lst (ea_cons ev_c ea_nil) (by show 1 ≤ 100000; decide)
/-! ## call 1 -/
abbrev sp_do_stem (K : PySem.W.Frag) : Sp := spDeed K 0 fun _ rs => .stem rs
theorem len_do_stem (h : sp_do_stem K vs H Q E) : vs.length = 3 := spDeed_len h
abbrev NL_do_stem : List Str := ["desk", "wholes", "row"]
theorem sc_do_stem : FnScope NL_do_stem ["desk", "wholes", "row"] (defScope s_do_stem) := ⟨rfl, rfl, rfl, by decide +kernel, rfl, by decide +kernel, by decide +kernel⟩
def t_do_stem (K : PySem.W.Frag) : TS := (tSeq (tIfS (tNot (tB (tCall (sp_are_points K) [] E0 (tCons (tVar 2) tNil)))) (tRet (tLst (tCons (tC (.int (-1))) tNil))) tNext)
    (tSeq (tDrop (tMeth (He.ga K "Desk") "put_stem" (sp_Desk_put_stem K) [] E0 (tVar 0) (tCons (tCall (sp_pairs_of K) [] E0 (tCons (tVar 2) tNil)) tNil)))
    (tRet (tLst (tCons (tC (.int 0)) tNil)))))
theorem w_do_stem (T : Txt K mg) (cdv : Value) (A : Around) (outer : List Env) (s : Shared) (H : Hp) (E : XK) (hr : Room 5 (A.deeper (envOfC "do_stem" (defScope s_do_stem) s.heap.objs.size (He.fAd K ("do_stem", none)) cdv))) :
    PSs (cxOf CX0 P w K mg base NL_do_stem "do_stem" (defScope s_do_stem) (He.fAd K ("do_stem", none)) cdv A outer s H E).nox (defBody s_do_stem) (t_do_stem K) := by
  exact (pss_cons (ps_if (pt_not (pt_val (pe_callG (ok_are_points T) (hr.mono (by decide)) rfl (T.glo 13 rfl) (pa_cons (pv 2) pa_nil)))) (pss_one (ps_ret (pe_lst (pa_cons (pe_gi rfl (T.int 87 rfl)) pa_nil)))) pss_nil)
    (pss_cons (ps_expr (pe_methG (pv 0) (T.cls 134 rfl) (T.meth 138 rfl) (ok_Desk_put_stem T) (hr.mono (by decide)) (pa_cons (pe_callG (ok_pairs_of T) (hr.mono (by decide)) rfl (T.glo 17 rfl) (pa_cons (pv 2) pa_nil)) pa_nil)))
    (pss_one (ps_ret (pe_lst (pa_cons (by exact pe_int) pa_nil))))))
theorem pure_do_stem (T : Txt K mg) (h : sp_do_stem K vs H Q E) : t_do_stem K { nx := fun _ H' => Q .non H', rt := Q } (start NL_do_stem vs) H := by
  obtain ⟨A, S, aW, ws, aR, rs, rfl, hA, hW, hR, hn, hr, k⟩ := h
  have st : Wrtibu.step S (.stem rs) = match Wrtibu.pointsOf rs with
    | none => (S, TimBase.RANGE)
    | some l => ({ S with stem := some (newS l) }, TimBase.DONE) := rfl
  rw [points_law] at st
  refine q_when (et_not (et_B (ev_L1 (ev_var rfl) hR hr trivial))) (fun hb H2 e2 => k.ret1 hA ?_ e2 rfl) (fun hb H2 e2 => ?_)
  · rw [if_neg (by rw [not_t hb]; decide)] at st
    exact st
  have hm := not_f hb
  rw [if_pos hm] at st
  obtain ⟨c, ok, enc⟩ := points_ok hm
  have hA2 := hA.mono e2
  refine q_dropX (X := isT K (pairsL rs)) (ev_var rfl) hA2.ins (dkF_no (by decide +kernel)) (ex_call (ea_cons (ev_var rfl) ea_nil) (fun H3 e3 Q' q => ⟨aR, rs, rfl, ex_l (e2.trans e3) hR, hr, c, isT_of q⟩) isT_mono) isT_mono fun v H3 e3 hv => ?_
  obtain ⟨p, ts, rfl, hp, h3, h4⟩ := hv
  refine ⟨A, S, p, ts, Wrtibu.nats (prs rs), H, rfl, hA2.mono e3, e2.trans e3, fresh_back e2 hp, hA2.not_list hp, h3, by rw [enc]; exact h4, ok, fun A' H' hA' f => ?_⟩
  exact k.retC el_one st rfl hA' f f.dom rfl
theorem ok_do_stem (T : Txt K mg) : Good P w K mg base ("do_stem", none) 6 ["desk", "wholes", "row"] (sp_do_stem K) :=
  good_mk (d := d_do_stem) T 47 rfl rfl rfl sc_do_stem (fun vs H Q E h => len_do_stem h) (fun _ _ _ _ _ _ us hl => match us, hl with | [_, _, _], _ => rfl) (fun cdv A outer s H E hr => w_do_stem T cdv A outer s H E hr) (fun vs H Q E h => pure_do_stem T h)
/-! ## calls 2, 3 -/
theorem ev_top {σ : L2.St} (T : Txt K mg) {A : DkA} {S : Wrtibu.State} {B : StA} {s : Stem} {ta : TE} (h : Ev ta σ H (.ref A.d)) (hA : DeskAt K H A S) (hB : A.st = some B) (hs : StemAt K H B s) : Ev (tFld K (tFld K ta "stem") "top") σ H (.int (s.top : Int)) := evS_top T (evD_st T h hA hB) hs
theorem stemAt_inj {A : DkA} {B : StA} : DkA.st { A with st := some B } = some B := rfl
theorem with_same {A : DkA} {B : StA} (h : A.st = some B) : ({ A with st := some B } : DkA) = A := by
  obtain ⟨d, dx, pl, st, pr⟩ := A
  cases h
  rfl
abbrev sp_do_zone (K : PySem.W.Frag) : Sp := spDeed K 3 fun ws _ => .zone (ws.getD 0 0) (ws.getD 1 0) (ws.getD 2 0)
theorem len_do_zone (h : sp_do_zone K vs H Q E) : vs.length = 3 := spDeed_len h
abbrev NL_do_zone : List Str := ["desk", "wholes", "row", "a", "b", "grade"]
theorem sc_do_zone : FnScope NL_do_zone ["desk", "wholes", "row"] (defScope s_do_zone) := ⟨rfl, rfl, rfl, by decide +kernel, rfl, by decide +kernel, by decide +kernel⟩
def t_do_zone (K : PySem.W.Frag) : TS := (tSeq (tAsg (tVar 1) (gUnl K 3 (gCons (gName 3) (gCons (gName 4) (gCons (gName 5) gNil)))))
    (tSeq (tIfS (tOr (tNot (tB (tCall (sp_is_stretch K) [] E0 (tCons (tVar 3) (tCons (tVar 4) tNil))))) (tNot (tB (tCall (sp_is_grade K) [] E0 (tCons (tVar 5) tNil))))) (tRet (tLst (tCons (tC (.int (-1))) tNil))) tNext)
    (tSeq (tIfS (tTest (tOp rIsN (tFld K (tVar 0) "stem") (tC .non))) (tRet (tLst (tCons (tC (.int (-3))) tNil))) tNext)
    (tSeq (tIfS (tTest (tOp (rI0 fun i j => .bl (decide (j < i))) (tVar 4) (tFld K (tFld K (tVar 0) "stem") "top"))) (tRet (tLst (tCons (tC (.int (-4))) tNil))) tNext)
    (tSeq (tDrop (tMeth (He.ga K "Stem") "put_grade" (sp_Stem_put_grade K) [] E0 (tFld K (tVar 0) "stem") (tCons (tVar 3) (tCons (tVar 4) (tCons (tVar 5) tNil)))))
    (tRet (tLst (tCons (tC (.int 0)) tNil))))))))
theorem w_do_zone (T : Txt K mg) (cdv : Value) (A : Around) (outer : List Env) (s : Shared) (H : Hp) (E : XK) (hr : Room 4 (A.deeper (envOfC "do_zone" (defScope s_do_zone) s.heap.objs.size (He.fAd K ("do_zone", none)) cdv))) :
    PSs (cxOf CX0 P w K mg base NL_do_zone "do_zone" (defScope s_do_zone) (He.fAd K ("do_zone", none)) cdv A outer s H E).nox (defBody s_do_zone) (t_do_zone K) := by
  exact (pss_cons (ps_asg (pv 1) (pg_unl rfl (pgs_cons (pg_name (i := 3) sc_do_zone.nd rfl (.inl rfl)) (pgs_cons (pg_name (i := 4) sc_do_zone.nd rfl (.inl rfl)) (pgs_cons (pg_name (i := 5) sc_do_zone.nd rfl (.inl rfl)) pgs_nil)))))
    (pss_cons (ps_if (PW.pt (pw_or (pt_not (pt_val (pe_callG (ok_is_stretch T) (hr.mono (by decide)) rfl (T.glo 4 rfl) (pa_cons (pv 3) (pa_cons (pv 4) pa_nil))))) (pw_or1 (pt_not (pt_val (pe_callG (ok_is_grade T) (hr.mono (by decide)) rfl (T.glo 5 rfl) (pa_cons (pv 5) pa_nil))))))) (pss_one (ps_ret (pe_lst (pa_cons (pe_gi rfl (T.int 87 rfl)) pa_nil)))) pss_nil)
    (pss_cons (ps_if (pt_cmpR op_isN (pe_fld (pv 0) rfl) (by exact pe_non) (nomark _)) (pss_one (ps_ret (pe_lst (pa_cons (pe_gi rfl (T.int 88 rfl)) pa_nil)))) pss_nil)
    (pss_cons (ps_if (pt_cmpR op_gt (pv 4) (pe_fld (pe_fld (pv 0) rfl) rfl) (nomark _)) (pss_one (ps_ret (pe_lst (pa_cons (pe_gi rfl (T.int 89 rfl)) pa_nil)))) pss_nil)
    (pss_cons (ps_expr (pe_methG (pe_fld (pv 0) rfl) (T.cls 101 rfl) (T.meth 115 rfl) (ok_Stem_put_grade T) (hr.mono (by decide)) (pa_cons (pv 3) (pa_cons (pv 4) (pa_cons (pv 5) pa_nil)))))
    (pss_one (ps_ret (pe_lst (pa_cons (by exact pe_int) pa_nil)))))))))
theorem pure_do_zone (T : Txt K mg) (h : sp_do_zone K vs H Q E) : t_do_zone K { nx := fun _ H' => Q .non H', rt := Q } (start NL_do_zone vs) H := by
  obtain ⟨A, S, aW, ws, aR, rs, rfl, hA, hW, hR, hn, hr, k⟩ := h
  match ws, hn with
  | [a, b, g], _ =>
  refine q_unL (σ' := [some (.ref A.d), some (.ref aW), some (.ref aR), some (.int a), some (.int b), some (.int g)]) (ev_var rfl) hW rfl (fun H' Q q => ⟨_, _, rfl, _, _, rfl, _, _, rfl, rfl, q⟩) fun H1 e1 => ?_
  have st : Wrtibu.step S (.zone a b g) = if (Wrtibu.isPart a b && TimBase.within 0 9 g) = false then (S, TimBase.RANGE) else (match S.stem with
    | none => (S, TimBase.NONE)
    | some s => if (s.top : Int) < b then (S, TimBase.CANT) else Wrtibu.changed S (s.change a.toNat b.toNat fun x => (g.toNat, x.2))) := rfl
  refine q_when (et_or (et_not (et_B (ev_I2 (ev_var rfl) (ev_var rfl)))) fun _ => et_not (et_B (ev_I1 (ev_var rfl)))) (fun hb H2 e2 => k.ret1 hA ?_ (e1.trans e2) rfl) (fun hb H2 e2 => ?_)
  · have hx : (Wrtibu.isPart a b && TimBase.within 0 9 g) = false := not_t (by rw [Bool.not_and]; exact hb)
    rw [if_pos hx] at st
    exact st
  have hx : (Wrtibu.isPart a b && TimBase.within 0 9 g) = true := not_f (by rw [Bool.not_and]; exact hb)
  rw [if_neg (by rw [hx]; decide)] at st
  replace e1 := e1.trans e2
  clear hb e2
  refine q_when (et_test (ev_noStem T (ev_var rfl) (hA.mono e1))) (fun hb H3 e3 => k.ret1 hA ?_ (e1.trans e3) rfl) (fun hb H3 e3 => ?_)
  · rw [Option.isNone_iff_eq_none.mp hb] at st
    exact st
  replace e1 := e1.trans e3
  obtain ⟨s, hS⟩ := stem_is hb
  obtain ⟨B, hB, hs⟩ := hA.st_some hS
  rw [hS] at st
  rw [Bool.and_eq_true] at hx
  obtain ⟨m, n, rfl, rfl, c1, c2, c3, c4⟩ := isPart_nat hx.1
  have hg := hx.2
  unfold TimBase.within at hg
  rw [Bool.and_eq_true, decide_eq_true_eq, decide_eq_true_eq] at hg
  obtain ⟨gn, rfl⟩ : ∃ n : Nat, g = n := ⟨g.toNat, by omega⟩
  refine q_when (et_test (ev_gt (ev_var rfl) (ev_top T (ev_var rfl) (hA.mono e1) hB (hs.mono e1)))) (fun hb H4 e4 => k.ret1 hA (st.trans ?_) (e1.trans e4) rfl) (fun hb H4 e4 => ?_)
  · show (if (s.top : Int) < (n : Int) then _ else _) = _
    rw [if_pos (of_decide_eq_true hb)]
    rfl
  have hle := of_decide_eq_false hb
  replace e1 := e1.trans e4
  have hA4 := hA.mono e1
  have hs4 := hs.mono e1
  refine q_dropM (evD_st T (ev_var rfl) hA4 hB) hs4.ins (stF_no (by decide +kernel)) (ea_cons (ev_var rfl) (ea_cons (ev_var rfl) (ea_cons (ev_var rfl) ea_nil))) fun H5 e5 => ⟨B, s, m, n, gn, rfl, hs4.mono e5, ⟨c1, c2, c3, by omega⟩, by omega, fun H' hs' b => ?_⟩
  obtain ⟨z1, z2⟩ := (hA4.mono e5).stem_step hB (hs4.mono e5).gra b (by unfold StA.lists; simp) rfl rfl hs'
  have f := z2.pre (e1.trans e5)
  refine k.retC (out := [0]) el_one (st.trans ?_) rfl z1 f f.dom rfl
  show (if (s.top : Int) < (n : Int) then _ else _) = _
  rw [if_neg hle]
  rfl
theorem ok_do_zone (T : Txt K mg) : Good P w K mg base ("do_zone", none) 5 ["desk", "wholes", "row"] (sp_do_zone K) :=
  good_mk (d := d_do_zone) T 48 rfl rfl rfl sc_do_zone (fun vs H Q E h => len_do_zone h) (fun _ _ _ _ _ _ us hl => match us, hl with | [_, _, _], _ => rfl) (fun cdv A outer s H E hr => w_do_zone T cdv A outer s H E hr) (fun vs H Q E h => pure_do_zone T h)
abbrev sp_do_rot (K : PySem.W.Frag) : Sp := spDeed K 2 fun ws _ => .rot (ws.getD 0 0) (ws.getD 1 0)
theorem len_do_rot (h : sp_do_rot K vs H Q E) : vs.length = 3 := spDeed_len h
abbrev NL_do_rot : List Str := ["desk", "wholes", "row", "a", "b"]
theorem sc_do_rot : FnScope NL_do_rot ["desk", "wholes", "row"] (defScope s_do_rot) := ⟨rfl, rfl, rfl, by decide +kernel, rfl, by decide +kernel, by decide +kernel⟩
def t_do_rot (K : PySem.W.Frag) : TS := (tSeq (tAsg (tVar 1) (gUnl K 2 (gCons (gName 3) (gCons (gName 4) gNil))))
    (tSeq (tIfS (tNot (tB (tCall (sp_is_stretch K) [] E0 (tCons (tVar 3) (tCons (tVar 4) tNil))))) (tRet (tLst (tCons (tC (.int (-1))) tNil))) tNext)
    (tSeq (tIfS (tTest (tOp rIsN (tFld K (tVar 0) "stem") (tC .non))) (tRet (tLst (tCons (tC (.int (-3))) tNil))) tNext)
    (tSeq (tIfS (tTest (tOp (rI0 fun i j => .bl (decide (j < i))) (tVar 4) (tFld K (tFld K (tVar 0) "stem") "top"))) (tRet (tLst (tCons (tC (.int (-4))) tNil))) tNext)
    (tSeq (tDrop (tMeth (He.ga K "Stem") "put_rot" (sp_Stem_put_rot K) [] E0 (tFld K (tVar 0) "stem") (tCons (tVar 3) (tCons (tVar 4) tNil))))
    (tRet (tLst (tCons (tC (.int 0)) tNil))))))))
theorem w_do_rot (T : Txt K mg) (cdv : Value) (A : Around) (outer : List Env) (s : Shared) (H : Hp) (E : XK) (hr : Room 4 (A.deeper (envOfC "do_rot" (defScope s_do_rot) s.heap.objs.size (He.fAd K ("do_rot", none)) cdv))) :
    PSs (cxOf CX0 P w K mg base NL_do_rot "do_rot" (defScope s_do_rot) (He.fAd K ("do_rot", none)) cdv A outer s H E).nox (defBody s_do_rot) (t_do_rot K) := by
  exact (pss_cons (ps_asg (pv 1) (pg_unl rfl (pgs_cons (pg_name (i := 3) sc_do_rot.nd rfl (.inl rfl)) (pgs_cons (pg_name (i := 4) sc_do_rot.nd rfl (.inl rfl)) pgs_nil))))
    (pss_cons (ps_if (pt_not (pt_val (pe_callG (ok_is_stretch T) (hr.mono (by decide)) rfl (T.glo 4 rfl) (pa_cons (pv 3) (pa_cons (pv 4) pa_nil))))) (pss_one (ps_ret (pe_lst (pa_cons (pe_gi rfl (T.int 87 rfl)) pa_nil)))) pss_nil)
    (pss_cons (ps_if (pt_cmpR op_isN (pe_fld (pv 0) rfl) (by exact pe_non) (nomark _)) (pss_one (ps_ret (pe_lst (pa_cons (pe_gi rfl (T.int 88 rfl)) pa_nil)))) pss_nil)
    (pss_cons (ps_if (pt_cmpR op_gt (pv 4) (pe_fld (pe_fld (pv 0) rfl) rfl) (nomark _)) (pss_one (ps_ret (pe_lst (pa_cons (pe_gi rfl (T.int 89 rfl)) pa_nil)))) pss_nil)
    (pss_cons (ps_expr (pe_methG (pe_fld (pv 0) rfl) (T.cls 101 rfl) (T.meth 116 rfl) (ok_Stem_put_rot T) (hr.mono (by decide)) (pa_cons (pv 3) (pa_cons (pv 4) pa_nil))))
    (pss_one (ps_ret (pe_lst (pa_cons (by exact pe_int) pa_nil)))))))))
theorem pure_do_rot (T : Txt K mg) (h : sp_do_rot K vs H Q E) : t_do_rot K { nx := fun _ H' => Q .non H', rt := Q } (start NL_do_rot vs) H := by
  obtain ⟨A, S, aW, ws, aR, rs, rfl, hA, hW, hR, hn, hr, k⟩ := h
  match ws, hn with
  | [a, b], _ =>
  refine q_unL (σ' := [some (.ref A.d), some (.ref aW), some (.ref aR), some (.int a), some (.int b)]) (ev_var rfl) hW rfl (fun H' Q q => ⟨_, _, rfl, _, _, rfl, rfl, q⟩) fun H1 e1 => ?_
  have st : Wrtibu.step S (.rot a b) = if Wrtibu.isPart a b = false then (S, TimBase.RANGE) else (match S.stem with
    | none => (S, TimBase.NONE)
    | some s => if (s.top : Int) < b then (S, TimBase.CANT) else Wrtibu.changed S (s.change a.toNat b.toNat fun x => (x.1, true))) := rfl
  refine q_when (et_not (et_B (ev_I2 (ev_var rfl) (ev_var rfl)))) (fun hb H2 e2 => k.ret1 hA ?_ (e1.trans e2) rfl) (fun hb H2 e2 => ?_)
  · rw [if_pos (not_t hb)] at st
    exact st
  have hx := not_f hb
  rw [if_neg (by rw [hx]; decide)] at st
  replace e1 := e1.trans e2
  clear hb e2
  refine q_when (et_test (ev_noStem T (ev_var rfl) (hA.mono e1))) (fun hb H3 e3 => k.ret1 hA ?_ (e1.trans e3) rfl) (fun hb H3 e3 => ?_)
  · rw [Option.isNone_iff_eq_none.mp hb] at st
    exact st
  replace e1 := e1.trans e3
  obtain ⟨s, hS⟩ := stem_is hb
  obtain ⟨B, hB, hs⟩ := hA.st_some hS
  rw [hS] at st
  obtain ⟨m, n, rfl, rfl, c1, c2, c3, c4⟩ := isPart_nat hx
  refine q_when (et_test (ev_gt (ev_var rfl) (ev_top T (ev_var rfl) (hA.mono e1) hB (hs.mono e1)))) (fun hb H4 e4 => k.ret1 hA (st.trans ?_) (e1.trans e4) rfl) (fun hb H4 e4 => ?_)
  · show (if (s.top : Int) < (n : Int) then _ else _) = _
    rw [if_pos (of_decide_eq_true hb)]
    rfl
  have hle := of_decide_eq_false hb
  replace e1 := e1.trans e4
  have hA4 := hA.mono e1
  have hs4 := hs.mono e1
  refine q_dropM (evD_st T (ev_var rfl) hA4 hB) hs4.ins (stF_no (by decide +kernel)) (ea_cons (ev_var rfl) (ea_cons (ev_var rfl) ea_nil)) fun H5 e5 => ⟨B, s, m, n, rfl, hs4.mono e5, ⟨c1, c2, c3, by omega⟩, fun H' hs' b => ?_⟩
  obtain ⟨z1, z2⟩ := (hA4.mono e5).stem_step hB (hs4.mono e5).rot b (by unfold StA.lists; simp) rfl rfl hs'
  have f := z2.pre (e1.trans e5)
  refine k.retC (out := [0]) el_one (st.trans ?_) rfl z1 f f.dom rfl
  show (if (s.top : Int) < (n : Int) then _ else _) = _
  rw [if_neg hle]
  rfl
theorem ok_do_rot (T : Txt K mg) : Good P w K mg base ("do_rot", none) 5 ["desk", "wholes", "row"] (sp_do_rot K) :=
  good_mk (d := d_do_rot) T 49 rfl rfl rfl sc_do_rot (fun vs H Q E h => len_do_rot h) (fun _ _ _ _ _ _ us hl => match us, hl with | [_, _, _], _ => rfl) (fun cdv A outer s H E hr => w_do_rot T cdv A outer s H E hr) (fun vs H Q E h => pure_do_rot T h)
/-! ## call 4 -/
abbrev sp_do_crook (K : PySem.W.Frag) : Sp := spDeed K 2 fun ws _ => .crook (ws.getD 0 0) (ws.getD 1 0)
theorem len_do_crook (h : sp_do_crook K vs H Q E) : vs.length = 3 := spDeed_len h
abbrev NL_do_crook : List Str := ["desk", "wholes", "row", "x", "most"]
theorem sc_do_crook : FnScope NL_do_crook ["desk", "wholes", "row"] (defScope s_do_crook) := ⟨rfl, rfl, rfl, by decide +kernel, rfl, by decide +kernel, by decide +kernel⟩
def t_do_crook (K : PySem.W.Frag) : TS := (tSeq (tAsg (tVar 1) (gUnl K 2 (gCons (gName 3) (gCons (gName 4) gNil))))
    (tSeq (tIfS (tOr (tNot (tB (tCall (sp_is_length K) [] E0 (tCons (tVar 3) tNil)))) (tNot (tB (tCall (sp_is_height K) [] E0 (tCons (tVar 4) tNil))))) (tRet (tLst (tCons (tC (.int (-1))) tNil))) tNext)
    (tSeq (tIfS (tTest (tOp rIsN (tFld K (tVar 0) "stem") (tC .non))) (tRet (tLst (tCons (tC (.int (-3))) tNil))) tNext)
    (tSeq (tIfS (tTest (tOp (rI0 fun i j => .bl (decide (j ≤ i))) (tVar 3) (tFld K (tFld K (tVar 0) "stem") "top"))) (tRet (tLst (tCons (tC (.int (-4))) tNil))) tNext)
    (tSeq (tIfS (tTest (tOp (rI0 fun i j => .bl (decide (j ≤ i))) (tCB (rLenS K) (tCons (tFld K (tFld K (tVar 0) "stem") "crooks") tNil)) (tC (.int (20))))) (tRet (tLst (tCons (tC (.int (-9))) tNil))) tNext)
    (tSeq (tDrop (tMeth (He.ga K "Stem") "add_crook" (sp_Stem_add_crook K) [] E0 (tFld K (tVar 0) "stem") (tCons (tVar 3) (tCons (tVar 4) tNil))))
    (tRet (tLst (tCons (tC (.int 0)) tNil)))))))))
theorem w_do_crook (T : Txt K mg) (cdv : Value) (A : Around) (outer : List Env) (s : Shared) (H : Hp) (E : XK) (hr : Room 4 (A.deeper (envOfC "do_crook" (defScope s_do_crook) s.heap.objs.size (He.fAd K ("do_crook", none)) cdv))) :
    PSs (cxOf CX0 P w K mg base NL_do_crook "do_crook" (defScope s_do_crook) (He.fAd K ("do_crook", none)) cdv A outer s H E).nox (defBody s_do_crook) (t_do_crook K) := by
  exact (pss_cons (ps_asg (pv 1) (pg_unl rfl (pgs_cons (pg_name (i := 3) sc_do_crook.nd rfl (.inl rfl)) (pgs_cons (pg_name (i := 4) sc_do_crook.nd rfl (.inl rfl)) pgs_nil))))
    (pss_cons (ps_if (PW.pt (pw_or (pt_not (pt_val (pe_callG (ok_is_length T) (hr.mono (by decide)) rfl (T.glo 3 rfl) (pa_cons (pv 3) pa_nil)))) (pw_or1 (pt_not (pt_val (pe_callG (ok_is_height T) (hr.mono (by decide)) rfl (T.glo 1 rfl) (pa_cons (pv 4) pa_nil))))))) (pss_one (ps_ret (pe_lst (pa_cons (pe_gi rfl (T.int 87 rfl)) pa_nil)))) pss_nil)
    (pss_cons (ps_if (pt_cmpR op_isN (pe_fld (pv 0) rfl) (by exact pe_non) (nomark _)) (pss_one (ps_ret (pe_lst (pa_cons (pe_gi rfl (T.int 88 rfl)) pa_nil)))) pss_nil)
    (pss_cons (ps_if (pt_cmpR op_ge (pv 3) (pe_fld (pe_fld (pv 0) rfl) rfl) (nomark _)) (pss_one (ps_ret (pe_lst (pa_cons (pe_gi rfl (T.int 89 rfl)) pa_nil)))) pss_nil)
    (pss_cons (ps_if (pt_cmpR op_ge (pe_callB call_len_seq rfl (T.free 78 rfl) (by decide +kernel) (pa_cons (pe_fld (pe_fld (pv 0) rfl) rfl) pa_nil)) (pe_gi rfl (T.int 97 rfl)) (nomark _)) (pss_one (ps_ret (pe_lst (pa_cons (pe_gi rfl (T.int 90 rfl)) pa_nil)))) pss_nil)
    (pss_cons (ps_expr (pe_methG (pe_fld (pv 0) rfl) (T.cls 101 rfl) (T.meth 117 rfl) (ok_Stem_add_crook T) (hr.mono (by decide)) (pa_cons (pv 3) (pa_cons (pv 4) pa_nil))))
    (pss_one (ps_ret (pe_lst (pa_cons (by exact pe_int) pa_nil))))))))))
theorem pure_do_crook (T : Txt K mg) (h : sp_do_crook K vs H Q E) : t_do_crook K { nx := fun _ H' => Q .non H', rt := Q } (start NL_do_crook vs) H := by
  obtain ⟨A, S, aW, ws, aR, rs, rfl, hA, hW, hR, hn, hr, k⟩ := h
  match ws, hn with
  | [x, m], _ =>
  refine q_unL (σ' := [some (.ref A.d), some (.ref aW), some (.ref aR), some (.int x), some (.int m)]) (ev_var rfl) hW rfl (fun H' Q q => ⟨_, _, rfl, _, _, rfl, rfl, q⟩) fun H1 e1 => ?_
  have st : Wrtibu.step S (.crook x m) = if (Wrtibu.isLong x && Wrtibu.isHeight m) = false then (S, TimBase.RANGE) else (match S.stem with
    | none => (S, TimBase.NONE)
    | some s => if (s.top : Int) ≤ x then (S, TimBase.CANT) else if 20 ≤ s.crooks.length then (S, TimBase.FULL) else Wrtibu.changed S { s with crooks := s.crooks ++ [(x.toNat, m.toNat)] }) := rfl
  refine q_when (et_or (et_not (et_B (ev_I1 (ev_var rfl)))) fun _ => et_not (et_B (ev_I1 (ev_var rfl)))) (fun hb H2 e2 => k.ret1 hA ?_ (e1.trans e2) rfl) (fun hb H2 e2 => ?_)
  · have hx : (Wrtibu.isLong x && Wrtibu.isHeight m) = false := not_t (by rw [Bool.not_and]; exact hb)
    rw [if_pos hx] at st
    exact st
  have hx : (Wrtibu.isLong x && Wrtibu.isHeight m) = true := not_f (by rw [Bool.not_and]; exact hb)
  rw [if_neg (by rw [hx]; decide)] at st
  replace e1 := e1.trans e2
  clear hb e2
  refine q_when (et_test (ev_noStem T (ev_var rfl) (hA.mono e1))) (fun hb H3 e3 => k.ret1 hA ?_ (e1.trans e3) rfl) (fun hb H3 e3 => ?_)
  · rw [Option.isNone_iff_eq_none.mp hb] at st
    exact st
  replace e1 := e1.trans e3
  obtain ⟨s, hS⟩ := stem_is hb
  obtain ⟨B, hB, hs⟩ := hA.st_some hS
  rw [hS] at st
  rw [Bool.and_eq_true] at hx
  obtain ⟨xn, rfl, x1, x2, x3⟩ := isLong_nat hx.1
  obtain ⟨mn, rfl, m1⟩ := isHeight_nat hx.2
  refine q_when (et_test (ev_ge (ev_var rfl) (ev_top T (ev_var rfl) (hA.mono e1) hB (hs.mono e1)))) (fun hb H4 e4 => k.ret1 hA (st.trans ?_) (e1.trans e4) rfl) (fun hb H4 e4 => ?_)
  · show (if (s.top : Int) ≤ (xn : Int) then _ else _) = _
    rw [if_pos (of_decide_eq_true hb)]
    rfl
  have hle := of_decide_eq_false hb
  replace e1 := e1.trans e4
  have hA4 := hA.mono e1
  have hs4 := hs.mono e1
  have hl : B.tC.length = s.crooks.length := by rw [hs.crT.length, List.length_map]
  have st2 : Wrtibu.step S (.crook (xn : Int) (mn : Int)) = if 20 ≤ s.crooks.length then (S, TimBase.FULL) else Wrtibu.changed S { s with crooks := s.crooks ++ [(xn, mn)] } := by
    refine st.trans ?_
    show (if (s.top : Int) ≤ (xn : Int) then _ else _) = _
    rw [if_neg hle]
    rfl
  refine q_when (et_test (ev_ge (ev_is (ev_len (evS_crooks T (evD_st T (ev_var rfl) hA4 hB) hs4) (sq_of hs4.cro)) (by rw [List.length_map, hl])) ev_c)) (fun hb H5 e5 => k.ret1 hA (st2.trans ?_) (e1.trans e5) rfl) (fun hb H5 e5 => ?_)
  · rw [if_pos (by have := of_decide_eq_true hb; omega)]
    rfl
  have hlt : ¬ 20 ≤ s.crooks.length := by
    have := of_decide_eq_false hb
    omega
  rw [if_neg hlt] at st2
  refine q_dropM (evD_st T (ev_var rfl) (hA4.mono e5) hB) (hs4.mono e5).ins (stF_no (by decide +kernel)) (ea_cons (ev_var rfl) (ea_cons (ev_var rfl) ea_nil)) fun H6 e6 => ⟨B, s, xn, mn, rfl, hs4.mono (e5.trans e6), by omega, fun H' tC hs' b => ?_⟩
  obtain ⟨z1, z2⟩ := (hA4.mono (e5.trans e6)).stem_step (B' := { B with tC := tC }) hB (hs4.mono (e5.trans e6)).cro b (by unfold StA.lists; simp) rfl rfl hs'
  have f := z2.pre (e1.trans (e5.trans e6))
  exact k.retC (out := [0]) el_one st2 rfl z1 f f.dom rfl
theorem ok_do_crook (T : Txt K mg) : Good P w K mg base ("do_crook", none) 5 ["desk", "wholes", "row"] (sp_do_crook K) :=
  good_mk (d := d_do_crook) T 50 rfl rfl rfl sc_do_crook (fun vs H Q E h => len_do_crook h) (fun _ _ _ _ _ _ us hl => match us, hl with | [_, _, _], _ => rfl) (fun cdv A outer s H E hr => w_do_crook T cdv A outer s H E hr) (fun vs H Q E h => pure_do_crook T h)
end
end Sb
end
section
set_option maxHeartbeats 4000000
namespace Sb
open PySem PySem.Spec PySem.Calls PyProof.Rows L2 Evl
open TimBuck (Stem Product Piece diameterIn Log)
theorem fm_inj {α β : Type} {f : α → Option β} {v : β} {x y : α} : ∀ {l : List α} {i j : Nat}, (l.filterMap f).Nodup → l[i]? = some x → l[j]? = some y → f x = some v → f y = some v → i = j
  | [], _, _, _, h, _, _, _ => by simp at h
  | z :: l, i, j, nd, h1, h2, h3, h4 => by
    have nd' : (l.filterMap f).Nodup ∧ ∀ w, f z = some w → w ∉ l.filterMap f := by
      rw [List.filterMap_cons] at nd
      cases hz : f z with
      | none =>
        rw [hz] at nd
        exact ⟨nd, fun w h => by cases h⟩
      | some u =>
        rw [hz] at nd
        obtain ⟨a, b⟩ := List.nodup_cons.mp nd
        exact ⟨b, fun w h => by
          cases h
          exact a⟩
    cases i with
    | zero =>
      cases j with
      | zero => rfl
      | succ j =>
        cases h1
        exact absurd (List.mem_filterMap.mpr ⟨y, List.mem_of_getElem? (show l[j]? = some y from h2), h4⟩) (nd'.2 v h3)
    | succ i =>
      cases j with
      | zero =>
        cases h2
        exact absurd (List.mem_filterMap.mpr ⟨x, List.mem_of_getElem? (show l[i]? = some x from h1), h3⟩) (nd'.2 v h4)
      | succ j => rw [fm_inj (l := l) (i := i) (j := j) nd'.1 h1 h2 h3 h4]
section
variable {P : Program} {w : World} {K : PySem.W.Frag} {mg : Str → Option Value} {base : Heap} {vs : List V} {H : Hp} {Q : VK} {E : XK}
/-! ## call 5 -/
abbrev sp_do_product (K : PySem.W.Frag) : Sp := spDeed K 8 fun ws _ => .product (ws.getD 0 0) (ws.getD 1 0) (ws.getD 2 0) (ws.getD 3 0) (ws.getD 4 0) (ws.getD 5 0) (ws.getD 6 0) (ws.getD 7 0)
theorem len_do_product (h : sp_do_product K vs H Q E) : vs.length = 3 := spDeed_len h
abbrev NL_do_product : List Str := ["desk", "wholes", "row", "k", "terms"]
theorem sc_do_product : FnScope NL_do_product ["desk", "wholes", "row"] (defScope s_do_product) := ⟨rfl, rfl, rfl, by decide +kernel, rfl, by decide +kernel, by decide +kernel⟩
def t_do_product (K : PySem.W.Frag) : TS := (tSeq (tAsg (tOp (rIxL K) (tVar 1) (tC (.int 0))) (gName 3))
    (tSeq (tAsg (tSl (rSlL K) (tVar 1) (tPart (tC (.int 1))) tNoPart) (gName 4))
    (tSeq (tIfS (tOr (tNot (tB (tCall (sp_is_product_number K) [] E0 (tCons (tVar 3) tNil)))) (tNot (tB (tCall (sp_are_terms K) [] E0 (tCons (tVar 4) tNil))))) (tRet (tLst (tCons (tC (.int (-1))) tNil))) tNext)
    (tSeq (tDrop (tMeth (He.ga K "Desk") "put_product" (sp_Desk_put_product K) [] E0 (tVar 0) (tCons (tVar 3) (tCons (tVar 4) tNil))))
    (tRet (tLst (tCons (tC (.int 0)) tNil)))))))
theorem w_do_product (T : Txt K mg) (cdv : Value) (A : Around) (outer : List Env) (s : Shared) (H : Hp) (E : XK) (hr : Room 6 (A.deeper (envOfC "do_product" (defScope s_do_product) s.heap.objs.size (He.fAd K ("do_product", none)) cdv))) :
    PSs (cxOf CX0 P w K mg base NL_do_product "do_product" (defScope s_do_product) (He.fAd K ("do_product", none)) cdv A outer s H E).nox (defBody s_do_product) (t_do_product K) := by
  exact (pss_cons (ps_set (i := 3) sc_do_product.nd rfl (.inl rfl) (pe_ix ix_list (pv 1) (by exact pe_int) (fun _ _ => rfl)))
    (pss_cons (ps_set (i := 4) sc_do_product.nd rfl (.inl rfl) (pe_slice sl_list (pv 1) (po_some (by exact pe_int)) po_none))
    (pss_cons (ps_if (PW.pt (pw_or (pt_not (pt_val (pe_callG (ok_is_product_number T) (hr.mono (by decide)) rfl (T.glo 7 rfl) (pa_cons (pv 3) pa_nil)))) (pw_or1 (pt_not (pt_val (pe_callG (ok_are_terms T) (hr.mono (by decide)) rfl (T.glo 10 rfl) (pa_cons (pv 4) pa_nil))))))) (pss_one (ps_ret (pe_lst (pa_cons (pe_gi rfl (T.int 87 rfl)) pa_nil)))) pss_nil)
    (pss_cons (ps_expr (pe_methG (pv 0) (T.cls 134 rfl) (T.meth 139 rfl) (ok_Desk_put_product T) (hr.mono (by decide)) (pa_cons (pv 3) (pa_cons (pv 4) pa_nil))))
    (pss_one (ps_ret (pe_lst (pa_cons (by exact pe_int) pa_nil))))))))
theorem pure_do_product (T : Txt K mg) (h : sp_do_product K vs H Q E) : t_do_product K { nx := fun _ H' => Q .non H', rt := Q } (start NL_do_product vs) H := by
  obtain ⟨A, S, aW, ws, aR, rs, rfl, hA, hW, hR, hn, hr, k⟩ := h
  match ws, hn with
  | [x, g, f, t, s, u, v, o], _ =>
  have st : Wrtibu.step S (.product x g f t s u v o) = if Wrtibu.mayProduct x g f t s u v o = false then (S, TimBase.RANGE) else ({ S with products := S.products.set x.toNat (some ⟨g.toNat, f.toNat, t.toNat, s.toNat, u.toNat, v.toNat, o.toNat, []⟩) }, TimBase.DONE) := rfl
  rw [product_law] at st
  refine q_asg (ev_ixL (ev_var rfl) ev_c hW rfl) fun H1 e1 => ?_
  have ecut : cutV (([x, g, f, t, s, u, v, o] : List Int).map V.int) (some 1) none = (([g, f, t, s, u, v, o] : List Int).map V.int) := rfl
  have z := el_sl (K := K) (σ := [some (.ref A.d), some (.ref aW), some (.ref aR), some (.int x), none]) (te := tVar 1) (ev_var rfl) (eo_some (ev_c (v := .int 1))) eo_none (ex_l e1 hW)
  rw [ecut] at z
  refine q_asgL z fun aT H2 hT0 e2 hT => ?_
  replace e1 := e1.trans e2
  refine q_when (et_or (et_not (et_B (ev_I1 (ev_var rfl)))) fun _ => et_not (et_B (ev_L1 (ev_var rfl) (sq_of hT) (by show 7 ≤ 1000; decide) rfl))) (fun hb H3 e3 => k.ret1 hA ?_ (e1.trans e3) rfl) (fun hb H3 e3 => ?_)
  · have hx : (Wrtibu.isProduct x && mTerms [g, f, t, s, u, v, o]) = false := not_t (by rw [Bool.not_and]; exact hb)
    rw [if_pos hx] at st
    exact st
  have hx : (Wrtibu.isProduct x && mTerms [g, f, t, s, u, v, o]) = true := not_f (by rw [Bool.not_and]; exact hb)
  rw [if_neg (by rw [hx]; decide)] at st
  replace e1 := e1.trans e3
  rw [Bool.and_eq_true] at hx
  obtain ⟨kn, rfl, hk⟩ := isProduct_nat hx.1
  obtain ⟨p, ok, hpr, hp, hl⟩ := terms_ok hx.2
  rw [← hp] at st
  have hA3 := hA.mono e1
  refine q_dropM (ev_var rfl) hA3.ins (dkF_no (by decide +kernel)) (ea_cons (ev_var rfl) (ea_cons (ev_var rfl) ea_nil)) fun H4 e4 => ⟨A, S, kn, aT, p, H, rfl, hA3.mono e4, e1.trans e4, hk, ?_, ok, hpr, fun A' H' hA' fr => ?_⟩
  · rw [hl]
    exact sq_of (e4 _ _ (e3 _ _ hT))
  · exact k.retC (out := [0]) el_one st rfl hA' fr fr.dom rfl
theorem ok_do_product (T : Txt K mg) : Good P w K mg base ("do_product", none) 7 ["desk", "wholes", "row"] (sp_do_product K) :=
  good_mk (d := d_do_product) T 51 rfl rfl rfl sc_do_product (fun vs H Q E h => len_do_product h) (fun _ _ _ _ _ _ us hl => match us, hl with | [_, _, _], _ => rfl) (fun cdv A outer s H E hr => w_do_product T cdv A outer s H E hr) (fun vs H Q E h => pure_do_product T h)
/-! ## call 6 -/
abbrev sp_do_price (K : PySem.W.Frag) : Sp := spDeed K 1 fun ws rs => .price (ws.getD 0 0) rs
theorem len_do_price (h : sp_do_price K vs H Q E) : vs.length = 3 := spDeed_len h
abbrev NL_do_price : List Str := ["desk", "wholes", "row", "k"]
theorem sc_do_price : FnScope NL_do_price ["desk", "wholes", "row"] (defScope s_do_price) := ⟨rfl, rfl, rfl, by decide +kernel, rfl, by decide +kernel, by decide +kernel⟩
def t_do_price (K : PySem.W.Frag) : TS := (tSeq (tAsg (tOp (rIxL K) (tVar 1) (tC (.int 0))) (gName 3))
    (tSeq (tIfS (tOr (tNot (tB (tCall (sp_is_product_number K) [] E0 (tCons (tVar 3) tNil)))) (tNot (tB (tCall (sp_are_price_rows K) [] E0 (tCons (tVar 2) tNil))))) (tRet (tLst (tCons (tC (.int (-1))) tNil))) tNext)
    (tSeq (tIfS (tB (tMeth (He.ga K "Desk") "has_no_product" (sp_Desk_has_no_product K) [] E0 (tVar 0) (tCons (tVar 3) tNil))) (tRet (tLst (tCons (tC (.int (-3))) tNil))) tNext)
    (tSeq (tDrop (tMeth (He.ga K "Product") "put_prices" (sp_Product_put_prices K) [] E0 (tOp (rIxL K) (tFld K (tVar 0) "products") (tVar 3)) (tCons (tCall (sp_pairs_of K) [] E0 (tCons (tVar 2) tNil)) tNil)))
    (tRet (tLst (tCons (tC (.int 0)) tNil)))))))
theorem w_do_price (T : Txt K mg) (cdv : Value) (A : Around) (outer : List Env) (s : Shared) (H : Hp) (E : XK) (hr : Room 3 (A.deeper (envOfC "do_price" (defScope s_do_price) s.heap.objs.size (He.fAd K ("do_price", none)) cdv))) :
    PSs (cxOf CX0 P w K mg base NL_do_price "do_price" (defScope s_do_price) (He.fAd K ("do_price", none)) cdv A outer s H E).nox (defBody s_do_price) (t_do_price K) := by
  exact (pss_cons (ps_set (i := 3) sc_do_price.nd rfl (.inl rfl) (pe_ix ix_list (pv 1) (by exact pe_int) (fun _ _ => rfl)))
    (pss_cons (ps_if (PW.pt (pw_or (pt_not (pt_val (pe_callG (ok_is_product_number T) (hr.mono (by decide)) rfl (T.glo 7 rfl) (pa_cons (pv 3) pa_nil)))) (pw_or1 (pt_not (pt_val (pe_callG (ok_are_price_rows T) (hr.mono (by decide)) rfl (T.glo 14 rfl) (pa_cons (pv 2) pa_nil))))))) (pss_one (ps_ret (pe_lst (pa_cons (pe_gi rfl (T.int 87 rfl)) pa_nil)))) pss_nil)
    (pss_cons (ps_if (pt_val (pe_methG (pv 0) (T.cls 134 rfl) (T.meth 141 rfl) (ok_Desk_has_no_product T) (hr.mono (by decide)) (pa_cons (pv 3) pa_nil))) (pss_one (ps_ret (pe_lst (pa_cons (pe_gi rfl (T.int 88 rfl)) pa_nil)))) pss_nil)
    (pss_cons (ps_expr (pe_methG (pe_ix ix_list (pe_fld (pv 0) rfl) (pv 3) (fun _ _ => rfl)) (T.cls 120 rfl) (T.meth 130 rfl) (ok_Product_put_prices T) (hr.mono (by decide)) (pa_cons (pe_callG (ok_pairs_of T) (hr.mono (by decide)) rfl (T.glo 17 rfl) (pa_cons (pv 2) pa_nil)) pa_nil)))
    (pss_one (ps_ret (pe_lst (pa_cons (by exact pe_int) pa_nil))))))))
theorem pure_do_price (T : Txt K mg) (h : sp_do_price K vs H Q E) : t_do_price K { nx := fun _ H' => Q .non H', rt := Q } (start NL_do_price vs) H := by
  obtain ⟨A, S, aW, ws, aR, rs, rfl, hA, hW, hR, hn, hr, k⟩ := h
  match ws, hn with
  | [x], _ =>
  have st : Wrtibu.step S (.price x rs) = if Wrtibu.isProduct x = false then (S, TimBase.RANGE) else (match Wrtibu.pricesOf rs with
    | none => (S, TimBase.RANGE)
    | some l => match (S.products[x.toNat]?).join with
      | none => (S, TimBase.NONE)
      | some p => ({ S with products := S.products.set x.toNat (some { p with prices := l }) }, TimBase.DONE)) := rfl
  rw [prices_law] at st
  refine q_asg (ev_ixL (ev_var rfl) ev_c hW rfl) fun H1 e1 => ?_
  refine q_when (et_or (et_not (et_B (ev_I1 (ev_var rfl)))) fun _ => et_not (et_B (ev_L1 (ev_var rfl) (ex_l e1 hR) hr trivial))) (fun hb H3 e3 => k.ret1 hA ?_ (e1.trans e3) rfl) (fun hb H3 e3 => ?_)
  · by_cases c : Wrtibu.isProduct x = false
    · rw [if_pos c] at st
      exact st
    · rw [Bool.not_eq_false] at c
      rw [c] at hb
      rw [if_neg (by rw [c]; decide), if_neg (by rw [not_t hb]; decide)] at st
      exact st
  rw [Bool.or_eq_false_iff] at hb
  have h1 := not_f hb.1
  have h2 := not_f hb.2
  rw [if_neg (by rw [h1]; decide), if_pos h2] at st
  replace e1 := e1.trans e3
  clear hb e3
  obtain ⟨kn, rfl, hk⟩ := isProduct_nat h1
  rw [Int.toNat_natCast] at st
  refine q_when (et_B (ev_noProduct (ev_var rfl) (hA.mono e1) (ev_var rfl) hk)) (fun hb H4 e4 => k.ret1 hA ?_ (e1.trans e4) rfl) (fun hb H4 e4 => ?_)
  · rw [Option.isNone_iff_eq_none.mp hb] at st
    exact st
  replace e1 := e1.trans e4
  obtain ⟨p, hp⟩ : ∃ p, (S.products[kn]?).join = some p := Option.isSome_iff_exists.mp (by rw [← Option.not_isNone, hb]; rfl)
  rw [hp] at st
  have hp' := join_some hp
  obtain ⟨C, hC, hPC⟩ := hA.pr_some hp'
  obtain ⟨c, pl, pm, enc⟩ := prices_ok h2
  have hA4 := hA.mono e1
  have ok : ProdOk { p with prices := Wrtibu.nats (prs rs) } := by
    obtain ⟨o1, o2, o3, o4, o5, o6, o7, o8, o9, o10, o11, o12, o13, _, _⟩ := hPC.ok
    exact ⟨o1, o2, o3, o4, o5, o6, o7, o8, o9, o10, o11, o12, o13, pl, pm⟩
  refine q_dropX (X := isT K (pairsL rs)) (evD_prod T (ev_var rfl) hA4 (ev_var rfl) hC) (hPC.mono e1).ins (prF_no (by decide +kernel)) (ex_call (ea_cons (ev_var rfl) ea_nil) (fun H3 e3 Q' q => ⟨aR, rs, rfl, ex_l (e1.trans e3) hR, hr, c, isT_of q⟩) isT_mono) isT_mono fun v H5 e5 hv => ?_
  obtain ⟨aQ, ts, rfl, hq, h3, h4⟩ := hv
  have e15 := e1.trans e5
  have hA5 := hA.mono e15
  have hP5 := hPC.mono e15
  refine ⟨C, p, aQ, ts, Wrtibu.nats (prs rs), rfl, hP5, h3, by rw [enc]; exact h4, ok, fun H' hP' b => ?_⟩
  have kp : Keep K H5 H' C.p := Keep.ins hP5.ins b
  have z := hA5.prod_step (k := kn) (o := some ⟨C.p, C.dx, aQ, ts⟩) (p := some { p with prices := Wrtibu.nats (prs rs) }) (H0 := H) e15 kp (List.mem_cons_of_mem _ (List.mem_append_right _ (mem_p hC))) hk (Ne.symm (ne_of hA5.ins hP5.ins dk_ne_pr)) (fun B hB => ?_) (fun j D hj hD => ?_) ?_ hP' (fun B hB => ?_) ?_ (fun B hB => ?_) (by rw [hP'.ins]; exact fun z => by cases z)
  · exact k.retC (out := [0]) el_one st rfl z.1 z.2 z.2.dom rfl
  · obtain ⟨s, _, hs⟩ := hA5.stem_at hB
    refine ⟨ne_of hP5.ins hs.ins pr_ne_st, fun z => ?_⟩
    obtain ⟨zs, hz⟩ := hs.list_some z
    rw [hP5.ins] at hz
    cases hz
  · obtain ⟨p', _, hPD⟩ := hA5.pr_get hD
    refine ⟨fun z => hj (fm_inj (f := fun (a : Option PrA) => Option.map (fun (b : PrA) => b.p) a) (v := C.p) hA5.ni hC hD rfl (by rw [z]; rfl)).symm, fun z => ?_⟩
    have := hPD.pri
    rw [← z, hP5.ins] at this
    cases this
  · rw [List.map_set, set_same (by rw [List.getElem?_map, hC]; rfl)]
    exact b _ _ (ne_of hA5.pro.lst hP5.ins (by intro z; cases z)) hA5.pro.lst
  · cases hB
    exact ⟨fresh_back e1 hq, fun z => hA4.not_list hq z⟩
  · rw [fm_set_same (f := fun (a : Option PrA) => Option.map (fun (b : PrA) => b.p) a) (x := some ⟨C.p, C.dx, aQ, ts⟩) (y := some C) rfl hC]
    exact hA5.ni
  · cases hB
    exact .inl (show C.p ∈ A.insts from mem_p hC)
theorem ok_do_price (T : Txt K mg) : Good P w K mg base ("do_price", none) 4 ["desk", "wholes", "row"] (sp_do_price K) :=
  good_mk (d := d_do_price) T 52 rfl rfl rfl sc_do_price (fun vs H Q E h => len_do_price h) (fun _ _ _ _ _ _ us hl => match us, hl with | [_, _, _], _ => rfl) (fun cdv A outer s H E hr => w_do_price T cdv A outer s H E hr) (fun vs H Q E h => pure_do_price T h)
/-! ## call 7 -/
abbrev sp_do_drop (K : PySem.W.Frag) : Sp := spDeed K 1 fun ws _ => .drop (ws.getD 0 0)
theorem len_do_drop (h : sp_do_drop K vs H Q E) : vs.length = 3 := spDeed_len h
abbrev NL_do_drop : List Str := ["desk", "wholes", "row", "k"]
theorem sc_do_drop : FnScope NL_do_drop ["desk", "wholes", "row"] (defScope s_do_drop) := ⟨rfl, rfl, rfl, by decide +kernel, rfl, by decide +kernel, by decide +kernel⟩
def t_do_drop (K : PySem.W.Frag) : TS := (tSeq (tAsg (tOp (rIxL K) (tVar 1) (tC (.int 0))) (gName 3))
    (tSeq (tIfS (tNot (tB (tCall (sp_is_product_number K) [] E0 (tCons (tVar 3) tNil)))) (tRet (tLst (tCons (tC (.int (-1))) tNil))) tNext)
    (tSeq (tIfS (tB (tMeth (He.ga K "Desk") "has_no_product" (sp_Desk_has_no_product K) [] E0 (tVar 0) (tCons (tVar 3) tNil))) (tRet (tLst (tCons (tC (.int (-3))) tNil))) tNext)
    (tSeq (tDrop (tMeth (He.ga K "Desk") "drop_product" (sp_Desk_drop_product K) [] E0 (tVar 0) (tCons (tVar 3) tNil)))
    (tRet (tLst (tCons (tC (.int 0)) tNil)))))))
theorem w_do_drop (T : Txt K mg) (cdv : Value) (A : Around) (outer : List Env) (s : Shared) (H : Hp) (E : XK) (hr : Room 2 (A.deeper (envOfC "do_drop" (defScope s_do_drop) s.heap.objs.size (He.fAd K ("do_drop", none)) cdv))) :
    PSs (cxOf CX0 P w K mg base NL_do_drop "do_drop" (defScope s_do_drop) (He.fAd K ("do_drop", none)) cdv A outer s H E).nox (defBody s_do_drop) (t_do_drop K) := by
  exact (pss_cons (ps_set (i := 3) sc_do_drop.nd rfl (.inl rfl) (pe_ix ix_list (pv 1) (by exact pe_int) (fun _ _ => rfl)))
    (pss_cons (ps_if (pt_not (pt_val (pe_callG (ok_is_product_number T) (hr.mono (by decide)) rfl (T.glo 7 rfl) (pa_cons (pv 3) pa_nil)))) (pss_one (ps_ret (pe_lst (pa_cons (pe_gi rfl (T.int 87 rfl)) pa_nil)))) pss_nil)
    (pss_cons (ps_if (pt_val (pe_methG (pv 0) (T.cls 134 rfl) (T.meth 141 rfl) (ok_Desk_has_no_product T) (hr.mono (by decide)) (pa_cons (pv 3) pa_nil))) (pss_one (ps_ret (pe_lst (pa_cons (pe_gi rfl (T.int 88 rfl)) pa_nil)))) pss_nil)
    (pss_cons (ps_expr (pe_methG (pv 0) (T.cls 134 rfl) (T.meth 140 rfl) (ok_Desk_drop_product T) (hr.mono (by decide)) (pa_cons (pv 3) pa_nil)))
    (pss_one (ps_ret (pe_lst (pa_cons (by exact pe_int) pa_nil))))))))
theorem pure_do_drop (T : Txt K mg) (h : sp_do_drop K vs H Q E) : t_do_drop K { nx := fun _ H' => Q .non H', rt := Q } (start NL_do_drop vs) H := by
  obtain ⟨A, S, aW, ws, aR, rs, rfl, hA, hW, hR, hn, hr, k⟩ := h
  match ws, hn with
  | [x], _ =>
  have st : Wrtibu.step S (.drop x) = if Wrtibu.isProduct x = false then (S, TimBase.RANGE) else (match (S.products[x.toNat]?).join with
    | none => (S, TimBase.NONE)
    | some _ => ({ S with products := S.products.set x.toNat none }, TimBase.DONE)) := rfl
  refine q_asg (ev_ixL (ev_var rfl) ev_c hW rfl) fun H1 e1 => ?_
  refine q_when (et_not (et_B (ev_I1 (ev_var rfl)))) (fun hb H3 e3 => k.ret1 hA ?_ (e1.trans e3) rfl) (fun hb H3 e3 => ?_)
  · rw [if_pos (not_t hb)] at st
    exact st
  have h1 := not_f hb
  rw [if_neg (by rw [h1]; decide)] at st
  replace e1 := e1.trans e3
  clear hb e3
  obtain ⟨kn, rfl, hk⟩ := isProduct_nat h1
  rw [Int.toNat_natCast] at st
  refine q_when (et_B (ev_noProduct (ev_var rfl) (hA.mono e1) (ev_var rfl) hk)) (fun hb H4 e4 => k.ret1 hA ?_ (e1.trans e4) rfl) (fun hb H4 e4 => ?_)
  · rw [Option.isNone_iff_eq_none.mp hb] at st
    exact st
  replace e1 := e1.trans e4
  obtain ⟨p, hp⟩ : ∃ p, (S.products[kn]?).join = some p := Option.isSome_iff_exists.mp (by rw [← Option.not_isNone, hb]; rfl)
  rw [hp] at st
  have hA4 := hA.mono e1
  refine q_dropM (ev_var rfl) hA4.ins (dkF_no (by decide +kernel)) (ea_cons (ev_var rfl) ea_nil) fun H5 e5 => ⟨A, S, kn, rfl, hA4.mono e5, hk, fun A' H' hA' fr => ?_⟩
  have f := fr.pre (e1.trans e5)
  exact k.retC (out := [0]) el_one st rfl hA' f f.dom rfl
theorem ok_do_drop (T : Txt K mg) : Good P w K mg base ("do_drop", none) 3 ["desk", "wholes", "row"] (sp_do_drop K) :=
  good_mk (d := d_do_drop) T 53 rfl rfl rfl sc_do_drop (fun vs H Q E h => len_do_drop h) (fun _ _ _ _ _ _ us hl => match us, hl with | [_, _, _], _ => rfl) (fun cdv A outer s H E hr => w_do_drop T cdv A outer s H E hr) (fun vs H Q E h => pure_do_drop T h)
/-! ## call 20 -/
abbrev sp_do_cut (K : PySem.W.Frag) : Sp := spDeed K 2 fun ws _ => .cut (ws.getD 0 0) (ws.getD 1 0)
theorem len_do_cut (h : sp_do_cut K vs H Q E) : vs.length = 3 := spDeed_len h
abbrev NL_do_cut : List Str := ["desk", "wholes", "row", "k", "paid", "stem", "product", "height", "worth"]
theorem sc_do_cut : FnScope NL_do_cut ["desk", "wholes", "row"] (defScope s_do_cut) := ⟨rfl, rfl, rfl, by decide +kernel, rfl, by decide +kernel, by decide +kernel⟩
def t_do_cut (K : PySem.W.Frag) : TS := (tSeq (tAsg (tVar 1) (gUnl K 2 (gCons (gName 3) (gCons (gName 4) gNil))))
    (tSeq (tIfS (tOr (tNot (tB (tCall (sp_is_product_number K) [] E0 (tCons (tVar 3) tNil)))) (tNot (tB (tCall (sp_is_length K) [] E0 (tCons (tVar 4) tNil))))) (tRet (tLst (tCons (tC (.int (-1))) tNil))) tNext)
    (tSeq (tIfS (tB (tMeth (He.ga K "Desk") "lacks" (sp_Desk_lacks K) [] E0 (tVar 0) (tCons (tVar 3) tNil))) (tRet (tLst (tCons (tC (.int (-3))) tNil))) tNext)
    (tSeq (tAsg (tFld K (tVar 0) "stem") (gName 5))
    (tSeq (tAsg (tOp (rIxL K) (tFld K (tVar 0) "products") (tVar 3)) (gName 6))
    (tSeq (tAsg (tMeth (He.ga K "Stem") "foot" (sp_Stem_foot K) [] E0 (tVar 5) tNil) (gName 7))
    (tSeq (tIfS (tTest (tOp rNe (tCall (sp_against K) [] E0 (tCons (tVar 5) (tCons (tVar 6) (tCons (tVar 7) (tCons (tVar 4) tNil))))) (tC (.int 0)))) (tRet (tLst (tCons (tC (.int (-4))) tNil))) tNext)
    (tSeq (tAsg (tCall (sp_worth_of K) [] E0 (tCons (tVar 5) (tCons (tVar 6) (tCons (tVar 7) (tCons (tVar 4) tNil))))) (gName 8))
    (tSeq (tDrop (tMeth (He.ga K "Stem") "cut_piece" (sp_Stem_cut_piece K) [] E0 (tVar 5) (tCons (tVar 3) (tCons (tVar 4) (tCons (tFld K (tVar 6) "over") tNil)))))
    (tRet (tLst (tCons (tC (.int 0)) (tCons (tVar 8) tNil)))))))))))))
theorem w_do_cut (T : Txt K mg) (cdv : Value) (A : Around) (outer : List Env) (s : Shared) (H : Hp) (E : XK) (hr : Room 4 (A.deeper (envOfC "do_cut" (defScope s_do_cut) s.heap.objs.size (He.fAd K ("do_cut", none)) cdv))) :
    PSs (cxOf CX0 P w K mg base NL_do_cut "do_cut" (defScope s_do_cut) (He.fAd K ("do_cut", none)) cdv A outer s H E).nox (defBody s_do_cut) (t_do_cut K) := by
  exact (pss_cons (ps_asg (pv 1) (pg_unl rfl (pgs_cons (pg_name (i := 3) sc_do_cut.nd rfl (.inl rfl)) (pgs_cons (pg_name (i := 4) sc_do_cut.nd rfl (.inl rfl)) pgs_nil))))
    (pss_cons (ps_if (PW.pt (pw_or (pt_not (pt_val (pe_callG (ok_is_product_number T) (hr.mono (by decide)) rfl (T.glo 7 rfl) (pa_cons (pv 3) pa_nil)))) (pw_or1 (pt_not (pt_val (pe_callG (ok_is_length T) (hr.mono (by decide)) rfl (T.glo 3 rfl) (pa_cons (pv 4) pa_nil))))))) (pss_one (ps_ret (pe_lst (pa_cons (pe_gi rfl (T.int 87 rfl)) pa_nil)))) pss_nil)
    (pss_cons (ps_if (pt_val (pe_methG (pv 0) (T.cls 134 rfl) (T.meth 142 rfl) (ok_Desk_lacks T) (hr.mono (by decide)) (pa_cons (pv 3) pa_nil))) (pss_one (ps_ret (pe_lst (pa_cons (pe_gi rfl (T.int 88 rfl)) pa_nil)))) pss_nil)
    (pss_cons (ps_set (i := 5) sc_do_cut.nd rfl (.inl rfl) (pe_fld (pv 0) rfl))
    (pss_cons (ps_set (i := 6) sc_do_cut.nd rfl (.inl rfl) (pe_ix ix_list (pe_fld (pv 0) rfl) (pv 3) (fun _ _ => rfl)))
    (pss_cons (ps_set (i := 7) sc_do_cut.nd rfl (.inl rfl) (pe_methG0 (pv 5) (T.cls 101 rfl) (T.meth 110 rfl) (ok_Stem_foot T) (hr.mono (by decide))))
    (pss_cons (ps_if (pt_cmpR op_ne (pe_callG (ok_against T) (hr.mono (by decide)) rfl (T.glo 25 rfl) (pa_cons (pv 5) (pa_cons (pv 6) (pa_cons (pv 7) (pa_cons (pv 4) pa_nil))))) (by exact pe_int) (nomark _)) (pss_one (ps_ret (pe_lst (pa_cons (pe_gi rfl (T.int 89 rfl)) pa_nil)))) pss_nil)
    (pss_cons (ps_set (i := 8) sc_do_cut.nd rfl (.inl rfl) (pe_callG (ok_worth_of T) (hr.mono (by decide)) rfl (T.glo 26 rfl) (pa_cons (pv 5) (pa_cons (pv 6) (pa_cons (pv 7) (pa_cons (pv 4) pa_nil))))))
    (pss_cons (ps_expr (pe_methG (pv 5) (T.cls 101 rfl) (T.meth 118 rfl) (ok_Stem_cut_piece T) (hr.mono (by decide)) (pa_cons (pv 3) (pa_cons (pv 4) (pa_cons (pe_fld (pv 6) rfl) pa_nil)))))
    (pss_one (ps_ret (pe_lst (pa_cons (by exact pe_int) (pa_cons (pv 8) pa_nil))))))))))))))
theorem pure_do_cut (T : Txt K mg) (h : sp_do_cut K vs H Q E) : t_do_cut K { nx := fun _ H' => Q .non H', rt := Q } (start NL_do_cut vs) H := by
  obtain ⟨A, S, aW, ws, aR, rs, rfl, hA, hW, hR, hn, hr, k⟩ := h
  match ws, hn with
  | [x, l], _ =>
  refine q_unL (σ' := [some (.ref A.d), some (.ref aW), some (.ref aR), some (.int x), some (.int l), none, none, none, none]) (ev_var rfl) hW rfl (fun H' Q q => ⟨_, _, rfl, _, _, rfl, rfl, q⟩) fun H1 e1 => ?_
  have st : Wrtibu.step S (.cut x l) = if (Wrtibu.isProduct x && Wrtibu.isLong l) = false then (S, TimBase.RANGE) else (match S.stem, (S.products[x.toNat]?).join with
    | some s, some p => if TimBuck.against s p s.foot l.toNat ≠ 0 then (S, TimBase.CANT) else ({ S with stem := some (cutS s (some x.toNat) l.toNat p.over) }, [0, (TimBuck.worth s p s.foot l.toNat : Int)])
    | _, _ => (S, TimBase.NONE)) := rfl
  refine q_when (et_or (et_not (et_B (ev_I1 (ev_var rfl)))) fun _ => et_not (et_B (ev_I1 (ev_var rfl)))) (fun hb H2 e2 => k.ret1 hA ?_ (e1.trans e2) rfl) (fun hb H2 e2 => ?_)
  · have hx : (Wrtibu.isProduct x && Wrtibu.isLong l) = false := not_t (by rw [Bool.not_and]; exact hb)
    rw [if_pos hx] at st
    exact st
  have hx : (Wrtibu.isProduct x && Wrtibu.isLong l) = true := not_f (by rw [Bool.not_and]; exact hb)
  rw [if_neg (by rw [hx]; decide)] at st
  replace e1 := e1.trans e2
  clear hb e2
  rw [Bool.and_eq_true] at hx
  obtain ⟨kn, rfl, hk⟩ := isProduct_nat hx.1
  obtain ⟨ln, rfl, l1, l2, l3⟩ := isLong_nat hx.2
  rw [Int.toNat_natCast, Int.toNat_natCast] at st
  refine q_when (et_B (ev_lacks (ev_var rfl) (hA.mono e1) (ev_var rfl) hk)) (fun hb H3 e3 => k.ret1 hA (st.trans ?_) (e1.trans e3) rfl) (fun hb H3 e3 => ?_)
  · revert hb
    cases S.stem <;> cases (S.products[kn]?).join <;> intro hb <;> first | rfl | cases hb
  replace e1 := e1.trans e3
  obtain ⟨s, p, hS, hp⟩ := lacks_not hb
  obtain ⟨B, hB, hs⟩ := hA.st_some hS
  obtain ⟨C, hC, hPC⟩ := hA.pr_some hp
  rw [some_join hp, hS] at st
  refine q_asg (evD_st T (ev_var rfl) (hA.mono e1) hB) fun H4 e4 => ?_
  replace e1 := e1.trans e4
  refine q_asg (evD_prod T (ev_var rfl) (hA.mono e1) (ev_var rfl) hC) fun H5 e5 => ?_
  replace e1 := e1.trans e5
  refine q_asg (ev_S0 (ev_var rfl) (hs.mono e1) (stF_no (by decide +kernel))) fun H6 e6 => ?_
  replace e1 := e1.trans e6
  have f10 := hs.ok.foot10
  refine q_when (et_test (ev_nei (ev_against (ev_var rfl) (ev_var rfl) (ev_var rfl) (ev_var rfl) (hs.mono e1) (hPC.mono e1) ⟨f10, l3, l1⟩) ev_c)) (fun hb H7 e7 => k.ret1 hA (st.trans ?_) (e1.trans e7) rfl) (fun hb H7 e7 => ?_)
  · have c : TimBuck.against s p s.foot ln ≠ 0 := fun z => by
      rw [z] at hb
      cases hb
    show (if TimBuck.against s p s.foot ln ≠ 0 then _ else _) = _
    rw [if_pos c]
    rfl
  have c : TimBuck.against s p s.foot ln = 0 := by
    have z : ((TimBuck.against s p s.foot ln : Nat) : Int) = 0 := by simpa using hb
    omega
  have az := against_zero c
  replace e1 := e1.trans e7
  refine q_asg (ev_worth (ev_var rfl) (ev_var rfl) (ev_var rfl) (ev_var rfl) (hs.mono e1) (hPC.mono e1) ⟨f10, l3, by omega⟩) fun H8 e8 => ?_
  replace e1 := e1.trans e8
  have ok := hPC.ok
  refine q_dropM (ev_var rfl) (hs.mono e1).ins (stF_no (by decide +kernel)) (ea_cons (ev_var rfl) (ea_cons (ev_var rfl) (ea_cons (evP_over T (ev_var rfl) (hPC.mono e1)) ea_nil))) fun H9 e9 => ⟨B, s, some kn, ln, p.over, rfl, hs.mono (e1.trans e9), ⟨l3, l1, ok.o10, ok.o, fun k' hk' => by cases hk'; omega⟩, az.2.2, fun H' tI hs' b => ?_⟩
  obtain ⟨z1, z2⟩ := (hA.mono (e1.trans e9)).stem_step (B' := { B with tI := tI }) hB (hs.mono (e1.trans e9)).pie b (by unfold StA.lists; simp) rfl rfl hs'
  have f := z2.pre (e1.trans e9)
  refine k.retC (out := [0, ((TimBuck.worth s p s.foot ln : Nat) : Int)]) (el_lst (ea_cons ev_c (ea_cons (ev_var rfl) ea_nil)) (by show 2 ≤ 100000; decide)) (st.trans ?_) rfl z1 f f.dom rfl
  show (if TimBuck.against s p s.foot ln ≠ 0 then _ else _) = _
  rw [if_neg (by omega)]
theorem ok_do_cut (T : Txt K mg) : Good P w K mg base ("do_cut", none) 5 ["desk", "wholes", "row"] (sp_do_cut K) :=
  good_mk (d := d_do_cut) T 54 rfl rfl rfl sc_do_cut (fun vs H Q E h => len_do_cut h) (fun _ _ _ _ _ _ us hl => match us, hl with | [_, _, _], _ => rfl) (fun cdv A outer s H E hr => w_do_cut T cdv A outer s H E hr) (fun vs H Q E h => pure_do_cut T h)
/-! ## calls 21, 22 -/
abbrev sp_do_waste (K : PySem.W.Frag) : Sp := spDeed K 1 fun ws _ => .waste (ws.getD 0 0)
theorem len_do_waste (h : sp_do_waste K vs H Q E) : vs.length = 3 := spDeed_len h
abbrev NL_do_waste : List Str := ["desk", "wholes", "row", "length"]
theorem sc_do_waste : FnScope NL_do_waste ["desk", "wholes", "row"] (defScope s_do_waste) := ⟨rfl, rfl, rfl, by decide +kernel, rfl, by decide +kernel, by decide +kernel⟩
def t_do_waste (K : PySem.W.Frag) : TS := (tSeq (tAsg (tOp (rIxL K) (tVar 1) (tC (.int 0))) (gName 3))
    (tSeq (tIfS (tNot (tB (tCall (sp_is_length K) [] E0 (tCons (tVar 3) tNil)))) (tRet (tLst (tCons (tC (.int (-1))) tNil))) tNext)
    (tSeq (tIfS (tTest (tOp rIsN (tFld K (tVar 0) "stem") (tC .non))) (tRet (tLst (tCons (tC (.int (-3))) tNil))) tNext)
    (tSeq (tIfS (tTest (tOp (rI0 fun i j => .bl (decide (j < i))) (tOp (rI0 fun i j => .int (i + j)) (tMeth (He.ga K "Stem") "foot" (sp_Stem_foot K) [] E0 (tFld K (tVar 0) "stem") tNil) (tVar 3)) (tFld K (tFld K (tVar 0) "stem") "top"))) (tRet (tLst (tCons (tC (.int (-4))) tNil))) tNext)
    (tSeq (tDrop (tMeth (He.ga K "Stem") "cut_piece" (sp_Stem_cut_piece K) [] E0 (tFld K (tVar 0) "stem") (tCons (tUn (rU fun i => .int (-i)) (tC (.int 1))) (tCons (tVar 3) (tCons (tC (.int 0)) tNil)))))
    (tRet (tLst (tCons (tC (.int 0)) tNil))))))))
theorem w_do_waste (T : Txt K mg) (cdv : Value) (A : Around) (outer : List Env) (s : Shared) (H : Hp) (E : XK) (hr : Room 4 (A.deeper (envOfC "do_waste" (defScope s_do_waste) s.heap.objs.size (He.fAd K ("do_waste", none)) cdv))) :
    PSs (cxOf CX0 P w K mg base NL_do_waste "do_waste" (defScope s_do_waste) (He.fAd K ("do_waste", none)) cdv A outer s H E).nox (defBody s_do_waste) (t_do_waste K) := by
  exact (pss_cons (ps_set (i := 3) sc_do_waste.nd rfl (.inl rfl) (pe_ix ix_list (pv 1) (by exact pe_int) (fun _ _ => rfl)))
    (pss_cons (ps_if (pt_not (pt_val (pe_callG (ok_is_length T) (hr.mono (by decide)) rfl (T.glo 3 rfl) (pa_cons (pv 3) pa_nil)))) (pss_one (ps_ret (pe_lst (pa_cons (pe_gi rfl (T.int 87 rfl)) pa_nil)))) pss_nil)
    (pss_cons (ps_if (pt_cmpR op_isN (pe_fld (pv 0) rfl) (by exact pe_non) (nomark _)) (pss_one (ps_ret (pe_lst (pa_cons (pe_gi rfl (T.int 88 rfl)) pa_nil)))) pss_nil)
    (pss_cons (ps_if (pt_cmpR op_gt (pe_op op_add (pe_methG0 (pe_fld (pv 0) rfl) (T.cls 101 rfl) (T.meth 110 rfl) (ok_Stem_foot T) (hr.mono (by decide))) (pv 3)) (pe_fld (pe_fld (pv 0) rfl) rfl) (nomark _)) (pss_one (ps_ret (pe_lst (pa_cons (pe_gi rfl (T.int 89 rfl)) pa_nil)))) pss_nil)
    (pss_cons (ps_expr (pe_methG (pe_fld (pv 0) rfl) (T.cls 101 rfl) (T.meth 118 rfl) (ok_Stem_cut_piece T) (hr.mono (by decide)) (pa_cons (pe_un un_neg (by exact pe_int)) (pa_cons (pv 3) (pa_cons (by exact pe_int) pa_nil)))))
    (pss_one (ps_ret (pe_lst (pa_cons (by exact pe_int) pa_nil)))))))))
theorem pure_do_waste (T : Txt K mg) (h : sp_do_waste K vs H Q E) : t_do_waste K { nx := fun _ H' => Q .non H', rt := Q } (start NL_do_waste vs) H := by
  obtain ⟨A, S, aW, ws, aR, rs, rfl, hA, hW, hR, hn, hr, k⟩ := h
  match ws, hn with
  | [l], _ =>
  have st : Wrtibu.step S (.waste l) = if Wrtibu.isLong l = false then (S, TimBase.RANGE) else (match S.stem with
    | none => (S, TimBase.NONE)
    | some s => if s.top < s.foot + l.toNat then (S, TimBase.CANT) else ({ S with stem := some (cutS s none l.toNat 0) }, TimBase.DONE)) := rfl
  refine q_asg (ev_ixL (ev_var rfl) ev_c hW rfl) fun H1 e1 => ?_
  refine q_when (et_not (et_B (ev_I1 (ev_var rfl)))) (fun hb H3 e3 => k.ret1 hA ?_ (e1.trans e3) rfl) (fun hb H3 e3 => ?_)
  · rw [if_pos (not_t hb)] at st
    exact st
  have h1 := not_f hb
  rw [if_neg (by rw [h1]; decide)] at st
  replace e1 := e1.trans e3
  clear hb e3
  obtain ⟨ln, rfl, l1, l2, l3⟩ := isLong_nat h1
  rw [Int.toNat_natCast] at st
  refine q_when (et_test (ev_noStem T (ev_var rfl) (hA.mono e1))) (fun hb H3 e3 => k.ret1 hA ?_ (e1.trans e3) rfl) (fun hb H3 e3 => ?_)
  · rw [Option.isNone_iff_eq_none.mp hb] at st
    exact st
  replace e1 := e1.trans e3
  obtain ⟨s, hS⟩ := stem_is hb
  obtain ⟨B, hB, hs⟩ := hA.st_some hS
  rw [hS] at st
  refine q_when (et_test (ev_gt (ev_add (ev_S0 (evD_st T (ev_var rfl) (hA.mono e1) hB) (hs.mono e1) (stF_no (by decide +kernel))) (ev_var rfl)) (ev_top T (ev_var rfl) (hA.mono e1) hB (hs.mono e1)))) (fun hb H4 e4 => k.ret1 hA (st.trans ?_) (e1.trans e4) rfl) (fun hb H4 e4 => ?_)
  · show (if s.top < s.foot + ln then _ else _) = _
    rw [if_pos (by have := of_decide_eq_true hb; omega)]
    rfl
  have hle := of_decide_eq_false hb
  replace e1 := e1.trans e4
  refine q_dropM (evD_st T (ev_var rfl) (hA.mono e1) hB) (hs.mono e1).ins (stF_no (by decide +kernel)) (ea_cons (ev_neg ev_c) (ea_cons (ev_var rfl) (ea_cons ev_c ea_nil))) fun H9 e9 => ⟨B, s, none, ln, 0, rfl, hs.mono (e1.trans e9), ⟨l3, l1, rfl, by decide, fun k' hk' => by cases hk'⟩, by omega, fun H' tI hs' b => ?_⟩
  obtain ⟨z1, z2⟩ := (hA.mono (e1.trans e9)).stem_step (B' := { B with tI := tI }) hB (hs.mono (e1.trans e9)).pie b (by unfold StA.lists; simp) rfl rfl hs'
  have f := z2.pre (e1.trans e9)
  refine k.retC (out := [0]) el_one (st.trans ?_) rfl z1 f f.dom rfl
  show (if s.top < s.foot + ln then _ else _) = _
  rw [if_neg (by omega)]
  rfl
theorem ok_do_waste (T : Txt K mg) : Good P w K mg base ("do_waste", none) 5 ["desk", "wholes", "row"] (sp_do_waste K) :=
  good_mk (d := d_do_waste) T 55 rfl rfl rfl sc_do_waste (fun vs H Q E h => len_do_waste h) (fun _ _ _ _ _ _ us hl => match us, hl with | [_, _, _], _ => rfl) (fun cdv A outer s H E hr => w_do_waste T cdv A outer s H E hr) (fun vs H Q E h => pure_do_waste T h)
abbrev sp_do_back (K : PySem.W.Frag) : Sp := spDeed K 0 fun _ _ => .back
theorem len_do_back (h : sp_do_back K vs H Q E) : vs.length = 3 := spDeed_len h
abbrev NL_do_back : List Str := ["desk", "wholes", "row"]
theorem sc_do_back : FnScope NL_do_back ["desk", "wholes", "row"] (defScope s_do_back) := ⟨rfl, rfl, rfl, by decide +kernel, rfl, by decide +kernel, by decide +kernel⟩
def t_do_back (K : PySem.W.Frag) : TS := (tSeq (tIfS (tTest (tOp rIsN (tFld K (tVar 0) "stem") (tC .non))) (tRet (tLst (tCons (tC (.int (-3))) tNil))) tNext)
    (tSeq (tIfS (tTest (tOp rEq (tCB (rLenS K) (tCons (tFld K (tFld K (tVar 0) "stem") "pieces") tNil)) (tC (.int 0)))) (tRet (tLst (tCons (tC (.int (-4))) tNil))) tNext)
    (tSeq (tDrop (tMeth (He.ga K "Stem") "put_back" (sp_Stem_put_back K) [] E0 (tFld K (tVar 0) "stem") tNil))
    (tRet (tLst (tCons (tC (.int 0)) (tCons (tMeth (He.ga K "Stem") "foot" (sp_Stem_foot K) [] E0 (tFld K (tVar 0) "stem") tNil) tNil)))))))
theorem w_do_back (T : Txt K mg) (cdv : Value) (A : Around) (outer : List Env) (s : Shared) (H : Hp) (E : XK) (hr : Room 1 (A.deeper (envOfC "do_back" (defScope s_do_back) s.heap.objs.size (He.fAd K ("do_back", none)) cdv))) :
    PSs (cxOf CX0 P w K mg base NL_do_back "do_back" (defScope s_do_back) (He.fAd K ("do_back", none)) cdv A outer s H E).nox (defBody s_do_back) (t_do_back K) := by
  exact (pss_cons (ps_if (pt_cmpR op_isN (pe_fld (pv 0) rfl) (by exact pe_non) (nomark _)) (pss_one (ps_ret (pe_lst (pa_cons (pe_gi rfl (T.int 88 rfl)) pa_nil)))) pss_nil)
    (pss_cons (ps_if (pt_cmpR op_eq (pe_callB call_len_seq rfl (T.free 78 rfl) (by decide +kernel) (pa_cons (pe_fld (pe_fld (pv 0) rfl) rfl) pa_nil)) (by exact pe_int) (nomark _)) (pss_one (ps_ret (pe_lst (pa_cons (pe_gi rfl (T.int 89 rfl)) pa_nil)))) pss_nil)
    (pss_cons (ps_expr (pe_methG0 (pe_fld (pv 0) rfl) (T.cls 101 rfl) (T.meth 119 rfl) (ok_Stem_put_back T) (hr.mono (by decide))))
    (pss_one (ps_ret (pe_lst (pa_cons (by exact pe_int) (pa_cons (pe_methG0 (pe_fld (pv 0) rfl) (T.cls 101 rfl) (T.meth 110 rfl) (ok_Stem_foot T) (hr.mono (by decide))) pa_nil))))))))
theorem pure_do_back (T : Txt K mg) (h : sp_do_back K vs H Q E) : t_do_back K { nx := fun _ H' => Q .non H', rt := Q } (start NL_do_back vs) H := by
  obtain ⟨A, S, aW, ws, aR, rs, rfl, hA, hW, hR, hn, hr, k⟩ := h
  have st : Wrtibu.step S .back = (match S.stem with
    | none => (S, TimBase.NONE)
    | some s => match s.done with
      | [] => (S, TimBase.CANT)
      | p :: r => ({ S with stem := some { s with foot := p.begins, done := r } }, [0, (p.begins : Int)])) := rfl
  refine q_when (et_test (ev_noStem T (ev_var rfl) hA)) (fun hb H3 e3 => k.ret1 hA ?_ e3 rfl) (fun hb H3 e1 => ?_)
  · rw [Option.isNone_iff_eq_none.mp hb] at st
    exact st
  obtain ⟨s, hS⟩ := stem_is hb
  obtain ⟨B, hB, hs⟩ := hA.st_some hS
  rw [hS] at st
  have hl : B.tI.length = s.done.length := by rw [hs.piT.length, List.length_map, List.length_reverse]
  refine q_when (et_test (ev_eqi (ev_is (ev_len (evS_pieces T (evD_st T (ev_var rfl) (hA.mono e1) hB) (hs.mono e1)) (sq_of (hs.mono e1).pie)) (by rw [List.length_map, hl])) ev_c)) (fun hb H4 e4 => k.ret1 hA (st.trans ?_) (e1.trans e4) rfl) (fun hb H4 e4 => ?_)
  · have e0 : s.done = [] := List.length_eq_zero_iff.mp (by have := eq_of_beq hb; omega)
    show (match s.done with
      | [] => (S, TimBase.CANT)
      | p :: r => _) = _
    rw [e0]
    rfl
  replace e1 := e1.trans e4
  cases hd : s.done with
  | nil =>
    rw [hd] at hb
    cases hb
  | cons p r =>
    have st2 : Wrtibu.step S .back = ({ S with stem := some { s with foot := p.begins, done := r } }, [0, (p.begins : Int)]) := by
      refine st.trans ?_
      show (match s.done with
        | [] => (S, TimBase.CANT)
        | p :: r => _) = _
      rw [hd]
    refine q_dropM (evD_st T (ev_var rfl) (hA.mono e1) hB) (hs.mono e1).ins (stF_no (by decide +kernel)) ea_nil fun H9 e9 => ⟨B, s, p, r, rfl, hs.mono (e1.trans e9), hd, fun H' tI hs' b => ?_⟩
    obtain ⟨z1, z2⟩ := (hA.mono (e1.trans e9)).stem_step (B' := { B with tI := tI }) hB (hs.mono (e1.trans e9)).pie b (by unfold StA.lists; simp) rfl rfl hs'
    have f := z2.pre (e1.trans e9)
    exact k.retC (out := [0, (p.begins : Int)]) (el_lst (ea_cons ev_c (ea_cons (ev_S0 (evD_st (A := { A with st := some { B with tI := tI } }) T (ev_var rfl) z1 rfl) hs' (stF_no (by decide +kernel))) ea_nil)) (by show 2 ≤ 100000; decide)) st2 rfl z1 f f.dom rfl
theorem ok_do_back (T : Txt K mg) : Good P w K mg base ("do_back", none) 2 ["desk", "wholes", "row"] (sp_do_back K) :=
  good_mk (d := d_do_back) T 56 rfl rfl rfl sc_do_back (fun vs H Q E h => len_do_back h) (fun _ _ _ _ _ _ us hl => match us, hl with | [_, _, _], _ => rfl) (fun cdv A outer s H E hr => w_do_back T cdv A outer s H E hr) (fun vs H Q E h => pure_do_back T h)
end
end Sb
end
section
set_option maxHeartbeats 4000000
namespace Sb
open TimBuck (Stem Product Piece Log)
/-! ## the board is the specification's -/
structure Ctx (s : Stem) (ps : TimBuck.Products) : Prop where
  st : StemOk s
  len : ps.length = 8
  pr : ∀ (k : Nat) (p : Product), ps[k]? = some (some p) → ProdOk p
def tens (s : Stem) : Nat := (s.top - s.foot) / 10
section
variable {s : Stem} {ps : TimBuck.Products}
theorem Ctx.nums (c : Ctx s ps) : s.top = s.foot + 10 * tens s ∧ tens s ≤ 200 := by
  have h1 := c.st.foot
  have h2 := c.st.top10
  have h3 := c.st.foot10
  have h4 := c.st.topLe
  unfold tens
  omega
theorem log_fact (c : Ctx s ps) {a : Nat} {x : Log} (h : x ∈ TimBuck.logsAt s ps a) : ∃ p, ps[x.product]? = some (some p) ∧ TimBuck.against s p a x.long = 0 ∧ x = mkLog s p a x.product x.long ∧ x.takes = x.long + p.over ∧ x.takes % 10 = 0 ∧ 100 ≤ x.long ∧ a + x.takes ≤ s.top ∧ x.product < 8 := by
  obtain ⟨i, k, hi, hk, h⟩ := mem_logsAt.mp h
  obtain ⟨p, l, hp, hl, ht, ha, rfl⟩ := logOf_some.mp h
  have z := against_zero ha
  have o := c.pr k p hp
  have t := paid_ten o (has_mem o z.1)
  have o10 := o.o10
  have hl8 := c.len
  refine ⟨p, hp, ha, rfl, rfl, ?_, t.2, ?_, by show k < 8; omega⟩
  · show (l + p.over) % 10 = 0
    omega
  · show a + (l + p.over) ≤ s.top
    omega
theorem logs_len (c : Ctx s ps) (a : Nat) : (TimBuck.logsAt s ps a).length ≤ 160 := by
  rw [← logs_kinds (s := s) (a := a) c.len c.pr]
  exact Nat.le_trans (List.length_filterMap_le _ _) (kindsS_len c.pr)
theorem boardL_len : (boardL s ps).length = tens s + 1 := by
  unfold boardL tens
  rw [List.length_map, List.length_range]
theorem boardL_get {i : Nat} (h : i ≤ tens s) : (boardL s ps)[i]? = some (stepsAt s ps (s.foot + 10 * i)) := by
  unfold boardL
  rw [List.getElem?_map, List.getElem?_range (by unfold tens at h; omega)]
  rfl
theorem steps_fact (c : Ctx s ps) {i : Nat} (hi : i ≤ tens s) {x : TimBuck.Step} (h : x ∈ stepsAt s ps (s.foot + 10 * i)) : 1 ≤ cellsS x ∧ x.takes = 10 * cellsS x ∧ i + cellsS x ≤ tens s := by
  have n := c.nums
  unfold stepsAt at h
  rcases List.mem_append.mp h with h | h
  · obtain ⟨y, hy, rfl⟩ := List.mem_map.mp h
    obtain ⟨p, _, _, _, h1, h2, h3, h4, _⟩ := log_fact c hy
    show 1 ≤ y.takes / 10 ∧ y.takes = 10 * (y.takes / 10) ∧ i + y.takes / 10 ≤ tens s
    omega
  · split at h
    · rcases List.mem_cons.mp h with rfl | h
      · show 1 ≤ 10 / 10 ∧ 10 = 10 * (10 / 10) ∧ i + 10 / 10 ≤ tens s
        omega
      · exact absurd h List.not_mem_nil
    · exact absurd h List.not_mem_nil
theorem boardL_ok (c : Ctx s ps) : BoardOk (boardL s ps) := by
  have n := c.nums
  have hl : (boardL s ps).length = tens s + 1 := boardL_len
  have hg : ∀ (i : Nat) l, (boardL s ps)[i]? = some l → i ≤ tens s ∧ l = stepsAt s ps (s.foot + 10 * i) := fun i l h => by
    have hi := (List.getElem?_eq_some_iff.mp h).1
    rw [hl] at hi
    rw [boardL_get (by omega)] at h
    cases h
    exact ⟨by omega, rfl⟩
  refine ⟨by omega, by omega, fun i l h => ?_, fun i l h hi => ?_, fun i l h x hx => ?_⟩
  · obtain ⟨_, rfl⟩ := hg i l h
    have z := logs_len c (s.foot + 10 * i)
    unfold stepsAt
    rw [List.length_append, List.length_map]
    split
    · rw [List.length_singleton]
      omega
    · rw [List.length_nil]
      omega
  · obtain ⟨_, rfl⟩ := hg i l h
    unfold stepsAt
    rw [if_pos (by omega)]
    simp
  · obtain ⟨h1, rfl⟩ := hg i l h
    obtain ⟨z1, _, z3⟩ := steps_fact c h1 hx
    exact ⟨z1, by omega⟩
end
/-! ## the row of worths -/
theorem fold_from {α : Type} (f : α → Nat) : ∀ (l : List α) (a : Nat), l.foldl (fun m x => max m (f x)) a = max a (l.foldl (fun m x => max m (f x)) 0)
  | [], a => by simp
  | x :: l, a => by
    rw [List.foldl_cons, List.foldl_cons, fold_from f l (max a (f x)), fold_from f l (max 0 (f x))]
    omega
section
variable {s : Stem} {ps : TimBuck.Products}
theorem fold_steps (r : List Nat) (a : Nat) (h : a < s.top) : (stepsAt s ps a).foldl (fun m x => max m (brR r x)) 0 = (TimBuck.logsAt s ps a).foldl (fun m x => max m (TimBuck.brings r x)) (r.headD 0) := by
  unfold stepsAt
  rw [if_pos h, List.foldl_append, List.foldl_map]
  show max ((TimBuck.logsAt s ps a).foldl (fun m x => max m (TimBuck.brings r x)) 0) (brR r .waste) = _
  rw [fold_from (TimBuck.brings r) _ (r.headD 0)]
  have e : brR r .waste = r.headD 0 := by
    unfold brR
    show 0 + r.getD 0 0 = _
    cases r <;> simp
  rw [e]
  omega
theorem rowB_from (c : Ctx s ps) : ∀ (m i : Nat), i + m = tens s → rowB ((boardL s ps).drop i) = TimBuck.rowFrom s ps m
  | 0, i, h => by
    have hl : (boardL s ps).length = tens s + 1 := boardL_len
    rw [List.drop_eq_getElem_cons (by omega), show i + 1 = (boardL s ps).length by omega, List.drop_length]
    rfl
  | m + 1, i, h => by
    have n := c.nums
    have hl : (boardL s ps).length = tens s + 1 := boardL_len
    rw [rowB_cons (boardL_get (by omega)) (by omega), rowB_from c m (i + 1) (by omega), fold_steps _ _ (by omega)]
    show _ = ((TimBuck.logsAt s ps (s.top - 10 * (m + 1))).foldl (fun a x => max a (TimBuck.brings (TimBuck.rowFrom s ps m) x)) ((TimBuck.rowFrom s ps m).headD 0)) :: TimBuck.rowFrom s ps m
    rw [show s.top - 10 * (m + 1) = s.foot + 10 * i by omega]
theorem rowB_is (c : Ctx s ps) : rowB (boardL s ps) = TimBuck.row s ps := by
  have z := rowB_from c (tens s) 0 (Nat.zero_add _)
  rw [List.drop_zero] at z
  exact z
theorem row_len (c : Ctx s ps) : (TimBuck.row s ps).length = tens s + 1 := by
  rw [← rowB_is c, rowB_len, boardL_len]
theorem rowB_drop {b : List (List TimBuck.Step)} : ∀ {j : Nat}, j < b.length → (rowB b).drop j = rowB (b.drop j)
  | 0, _ => rfl
  | j + 1, h => by
    rw [← List.tail_drop, rowB_drop (j := j) (by omega), rowB_cons (List.getElem?_eq_getElem (show j < b.length by omega)) h]
    rfl
theorem row_drop (c : Ctx s ps) {i : Nat} (h : i < tens s) : ∃ v r, (TimBuck.row s ps).drop i = ((stepsAt s ps (s.foot + 10 * i)).foldl (fun m x => max m (brR (v :: r) x)) 0) :: v :: r ∧ (TimBuck.row s ps).drop (i + 1) = v :: r := by
  have hl : (boardL s ps).length = tens s + 1 := boardL_len
  have z1 := rowB_from c (tens s - i) i (by omega)
  have z2 := rowB_from c (tens s - (i + 1)) (i + 1) (by omega)
  have hd : ∀ j, j ≤ tens s → (TimBuck.row s ps).drop j = TimBuck.rowFrom s ps (tens s - j) := fun j hj => by
    rw [← rowB_from c (tens s - j) j (by omega), ← rowB_is c]
    exact rowB_drop (by omega)
  have e := rowB_cons (b := boardL s ps) (boardL_get (i := i) (by omega)) (by omega)
  rw [hd i (by omega), hd (i + 1) (by omega), ← z1, ← z2, e]
  have hne : rowB ((boardL s ps).drop (i + 1)) ≠ [] := fun z => by
    have := congrArg List.length z
    rw [rowB_len, List.length_drop, List.length_nil] at this
    omega
  cases hq : rowB ((boardL s ps).drop (i + 1)) with
  | nil => exact absurd hq hne
  | cons v r => exact ⟨v, r, rfl, rfl⟩
end
/-! ## the first of the greatest -/
theorem pick_find (f : TimBuck.Step → Nat) : ∀ (l : List TimBuck.Step) (a : TimBuck.Step), (a :: l).find? (fun y => f y == l.foldl (fun m x => max m (f x)) (f a)) = some (l.foldl (pick f) a)
  | [], a => by simp
  | x :: l, a => by
    have ih := pick_find f l (pick f a x)
    have e : f (pick f a x) = max (f a) (f x) := by
      unfold pick
      split <;> omega
    have b1 := (fold_max f l (max (f a) (f x))).1
    rw [e] at ih
    rw [List.foldl_cons, List.foldl_cons, ← ih]
    generalize hM : l.foldl (fun m x => max m (f x)) (max (f a) (f x)) = M at b1
    unfold pick
    by_cases c : f a < f x
    · rw [if_pos c, List.find?_cons_of_neg (by rw [beq_iff_eq]; omega)]
    · rw [if_neg c]
      by_cases d : f a = M
      · rw [List.find?_cons_of_pos (by rw [beq_iff_eq]; exact d), List.find?_cons_of_pos (by rw [beq_iff_eq]; exact d)]
      · rw [List.find?_cons_of_neg (by rw [beq_iff_eq]; exact d), List.find?_cons_of_neg (by rw [beq_iff_eq]; omega), List.find?_cons_of_neg (by rw [beq_iff_eq]; exact d)]
theorem bestS_find (f : TimBuck.Step → Nat) {l : List TimBuck.Step} (h : l ≠ []) : l.find? (fun y => f y == l.foldl (fun m x => max m (f x)) 0) = some (bestS f l) := by
  cases l with
  | nil => exact absurd rfl h
  | cons a r =>
    have z := pick_find f r a
    have e1 : (a :: r).foldl (fun m x => max m (f x)) 0 = r.foldl (fun m x => max m (f x)) (f a) := by
      rw [List.foldl_cons, Nat.zero_max]
    have e2 : bestS f (a :: r) = r.foldl (pick f) a := by
      show (a :: r).foldl (pick f) a = _
      rw [List.foldl_cons]
      congr 1
      unfold pick
      rw [if_neg (by omega)]
    rw [e1, e2]
    exact z
theorem fold_congr {α : Type} {f g : α → Nat} : ∀ {l : List α} {a : Nat}, (∀ x ∈ l, f x = g x) → l.foldl (fun m x => max m (f x)) a = l.foldl (fun m x => max m (g x)) a
  | [], _, _ => rfl
  | x :: l, a, h => by
    rw [List.foldl_cons, List.foldl_cons, h x (List.mem_cons_self ..)]
    exact fold_congr fun y hy => h y (List.mem_cons_of_mem _ hy)
theorem bestS_congr {f g : TimBuck.Step → Nat} {l : List TimBuck.Step} (h : ∀ x ∈ l, f x = g x) : bestS f l = bestS g l := by
  have go : ∀ (m : List TimBuck.Step) (a : TimBuck.Step), f a = g a → (∀ x ∈ m, f x = g x) → m.foldl (pick f) a = m.foldl (pick g) a := by
    intro m
    induction m with
    | nil => intro a _ _; rfl
    | cons x m ih =>
      intro a ha hm
      rw [List.foldl_cons, List.foldl_cons]
      have hx := hm x (List.mem_cons_self ..)
      have e : pick f a x = pick g a x := by
        unfold pick
        rw [ha, hx]
      rw [e]
      refine ih _ ?_ fun y hy => hm y (List.mem_cons_of_mem _ hy)
      unfold pick
      split
      · exact hx
      · exact ha
  cases l with
  | nil => rfl
  | cons a r => exact go (a :: r) a (h a (List.mem_cons_self ..)) h
/-! ## the best way -/
section
variable {s : Stem} {ps : TimBuck.Products}
theorem brS_row (c : Ctx s ps) {i : Nat} {v : Nat} {r : List Nat} (hr : (TimBuck.row s ps).drop (i + 1) = v :: r) {x : TimBuck.Step} (hx : 1 ≤ cellsS x) : brS (TimBuck.row s ps) i x = brR (v :: r) x := by
  unfold brS brR
  rw [← hr]
  congr 1
  rw [List.getD_eq_getElem?_getD, List.getD_eq_getElem?_getD, List.getElem?_drop]
  congr 2
  omega
theorem way_first (c : Ctx s ps) {i : Nat} (hi : i < tens s) {w v : Nat} {r : List Nat} (hr : (TimBuck.row s ps).drop i = w :: v :: r) (hr2 : (TimBuck.row s ps).drop (i + 1) = v :: r) : bestS (brS (TimBuck.row s ps) i) (stepsAt s ps (s.foot + 10 * i)) = match (TimBuck.logsAt s ps (s.foot + 10 * i)).find? (fun x => TimBuck.brings (v :: r) x == w) with
    | some x => .log x
    | none => .waste := by
  have n := c.nums
  obtain ⟨v', r', e1, e2⟩ := row_drop c hi
  rw [hr2] at e2
  cases e2
  rw [hr] at e1
  have hw := (List.cons.inj e1).1
  rw [bestS_congr (g := brR (v :: r)) fun x hx => brS_row c hr2 (steps_fact c (by omega) hx).1]
  have hne : stepsAt s ps (s.foot + 10 * i) ≠ [] := by
    unfold stepsAt
    rw [if_pos (by omega)]
    simp
  have z := bestS_find (brR (v :: r)) hne
  rw [← hw] at z
  have hs : stepsAt s ps (s.foot + 10 * i) = (TimBuck.logsAt s ps (s.foot + 10 * i)).map TimBuck.Step.log ++ [.waste] := by
    unfold stepsAt
    rw [if_pos (by omega)]
  generalize bestS (brR (v :: r)) (stepsAt s ps (s.foot + 10 * i)) = b at z
  rw [hs, List.find?_append, List.find?_map] at z
  have e3 : ((fun y : TimBuck.Step => brR (v :: r) y == w) ∘ TimBuck.Step.log) = fun x => TimBuck.brings (v :: r) x == w := rfl
  rw [e3] at z
  cases hf : (TimBuck.logsAt s ps (s.foot + 10 * i)).find? (fun x => TimBuck.brings (v :: r) x == w) with
  | some x =>
    rw [hf] at z
    cases z
    rfl
  | none =>
    rw [hf] at z
    rw [Option.map_none, Option.none_or] at z
    have := List.mem_of_find?_eq_some z
    rcases List.mem_cons.mp this with h | h
    · exact h
    · exact absurd h List.not_mem_nil
theorem way_is (c : Ctx s ps) {i : Nat} {way : List TimBuck.Step} (h : WayIs (boardL s ps) (TimBuck.row s ps) i way) : i ≤ tens s → ∀ f, tens s - i < f → way = TimBuck.wayFrom s ps f (s.foot + 10 * i) ((TimBuck.row s ps).drop i) := by
  have hl : (boardL s ps).length = tens s + 1 := boardL_len
  have hrl := row_len c
  induction h with
  | @stop i h1 =>
    intro hi f hf
    have e : i = tens s := by omega
    rw [List.drop_eq_getElem_cons (by omega), show i + 1 = (TimBuck.row s ps).length by omega, List.drop_length]
    cases f <;> rfl
  | @go i l w h1 h2 h3 ih =>
    intro hi f hf
    have hit : i < tens s := by omega
    rw [boardL_get hi] at h2
    cases h2
    obtain ⟨v, r, e1, e2⟩ := row_drop c hit
    have hne : stepsAt s ps (s.foot + 10 * i) ≠ [] := by
      unfold stepsAt
      rw [if_pos (by have := c.nums; omega)]
      simp
    obtain ⟨f1, f2, f3⟩ := steps_fact c hi (bestS_mem (brS (TimBuck.row s ps) i) hne)
    have hb := way_first c hit e1 e2
    cases f with
    | zero => omega
    | succ f =>
      have ih := ih f3 f (by omega)
      rw [e1]
      rw [ih]
      show _ = match (TimBuck.logsAt s ps (s.foot + 10 * i)).find? (fun x => TimBuck.brings (v :: r) x == _) with
        | some x => TimBuck.Step.log x :: TimBuck.wayFrom s ps f (s.foot + 10 * i + x.takes) ((_ :: v :: r).drop (x.takes / 10))
        | none => TimBuck.Step.waste :: TimBuck.wayFrom s ps f (s.foot + 10 * i + 10) (v :: r)
      generalize hB : bestS (brS (TimBuck.row s ps) i) (stepsAt s ps (s.foot + 10 * i)) = B at hb f1 f2 f3 ih ⊢
      generalize hF : (TimBuck.logsAt s ps (s.foot + 10 * i)).find? _ = F at hb ⊢
      cases F with
      | some x =>
        subst hb
        have f2 : x.takes = 10 * cellsS (TimBuck.Step.log x) := f2
        show TimBuck.Step.log x :: _ = TimBuck.Step.log x :: _
        congr 1
        congr 1
        · show s.foot + 10 * (i + cellsS (TimBuck.Step.log x)) = s.foot + 10 * i + x.takes
          omega
        · rw [← e1, List.drop_drop]
          rfl
      | none =>
        subst hb
        show TimBuck.Step.waste :: _ = TimBuck.Step.waste :: _
        congr 1
        rw [← e2]
        rfl
theorem best_is (c : Ctx s ps) {way : List TimBuck.Step} (h : WayIs (boardL s ps) (TimBuck.row s ps) 0 way) : way = TimBuck.best s ps := by
  have n := c.nums
  have ht : s.top = 10 * s.cells.length := rfl
  exact way_is c h (Nat.zero_le _) (s.cells.length + 1) (by omega)
end
/-! ## a way's pieces -/
def join2 (acc qs : List (Int × Int)) : List (Int × Int) := match qs with
  | (k, m) :: t => if k = -1 ∧ (acc.getLast?.map fun q => q.1) = some (-1) then acc.dropLast ++ (-1, (acc.getLast?.map fun q => q.2).getD 0 + m) :: t else acc ++ (k, m) :: t
  | [] => acc
theorem join2_cons (acc : List (Int × Int)) (k m : Int) (t : List (Int × Int)) : join2 acc ((k, m) :: t) = if k = -1 ∧ (acc.getLast?.map fun q => q.1) = some (-1) then acc.dropLast ++ (-1, (acc.getLast?.map fun q => q.2).getD 0 + m) :: t else acc ++ (k, m) :: t := rfl
theorem fold_add : ∀ (w : List TimBuck.Step) (acc : List (Int × Int)), w.foldl addP acc = join2 acc (TimBuck.piecesOf w)
  | [], acc => rfl
  | .log x :: w, acc => by
    rw [List.foldl_cons, fold_add w]
    have e : addP acc (.log x) = acc ++ [((x.product : Int), (x.long : Int))] := by
      unfold addP
      rw [if_neg (fun z => by
        have : (x.product : Int) = -1 := z.1
        omega)]
      rfl
    rw [e]
    show join2 (acc ++ [((x.product : Int), (x.long : Int))]) (TimBuck.piecesOf w) = join2 acc (((x.product : Int), (x.long : Int)) :: TimBuck.piecesOf w)
    have e2 : join2 acc (((x.product : Int), (x.long : Int)) :: TimBuck.piecesOf w) = acc ++ ((x.product : Int), (x.long : Int)) :: TimBuck.piecesOf w := by
      rw [join2_cons, if_neg (fun z => by have := z.1; omega)]
    rw [e2]
    cases TimBuck.piecesOf w with
    | nil => rfl
    | cons q t =>
      obtain ⟨k, m⟩ := q
      rw [join2_cons, if_neg (fun z => by
        have := z.2
        rw [List.getLast?_concat] at this
        have : (x.product : Int) = -1 := Option.some.inj this
        omega)]
      rw [List.append_assoc]
      rfl
  | .waste :: w, acc => by
    rw [List.foldl_cons, fold_add w]
    have ep : TimBuck.piecesOf (.waste :: w) = match TimBuck.piecesOf w with
      | (-1, l) :: t => (-1, l + 10) :: t
      | t => (-1, 10) :: t := rfl
    rw [ep]
    by_cases c : (acc.getLast?.map fun q => q.1) = some (-1)
    · have e : addP acc .waste = acc.dropLast ++ [(-1, (acc.getLast?.map fun q => q.2).getD 0 + 10)] := by
        unfold addP
        rw [if_pos ⟨rfl, c⟩]
        rfl
      rw [e]
      generalize hm : (acc.getLast?.map fun q => q.2).getD 0 = m
      cases hq : TimBuck.piecesOf w with
      | nil =>
        show acc.dropLast ++ [(-1, m + 10)] = if (-1 : Int) = -1 ∧ _ then acc.dropLast ++ [(-1, (acc.getLast?.map fun q => q.2).getD 0 + 10)] else _
        rw [if_pos ⟨rfl, c⟩, hm]
      | cons q t =>
        obtain ⟨k, n⟩ := q
        by_cases ck : k = -1
        · subst ck
          show (if (-1 : Int) = -1 ∧ _ then (acc.dropLast ++ [(-1, m + 10)]).dropLast ++ (-1, ((acc.dropLast ++ [((-1 : Int), m + 10)]).getLast?.map fun q => q.2).getD 0 + n) :: t else _) = if (-1 : Int) = -1 ∧ _ then acc.dropLast ++ (-1, (acc.getLast?.map fun q => q.2).getD 0 + (n + 10)) :: t else _
          rw [if_pos ⟨rfl, by rw [List.getLast?_concat]; rfl⟩, if_pos ⟨rfl, c⟩, List.dropLast_concat, List.getLast?_concat, hm]
          show acc.dropLast ++ (-1, m + 10 + n) :: t = acc.dropLast ++ (-1, m + (n + 10)) :: t
          rw [show m + 10 + n = m + (n + 10) by omega]
        · have e3 : (match (k, n) :: t with
            | (-1, l) :: t => (-1, l + 10) :: t
            | t => (-1, 10) :: t) = ((-1 : Int), (10 : Int)) :: (k, n) :: t := by
            split
            · rename_i h
              injection h with h1 h2
              injection h1 with h3 h4
              exact absurd h3 ck
            · rfl
          rw [e3]
          show (if k = -1 ∧ _ then _ else (acc.dropLast ++ [(-1, m + 10)]) ++ (k, n) :: t) = if (-1 : Int) = -1 ∧ _ then acc.dropLast ++ (-1, (acc.getLast?.map fun q => q.2).getD 0 + 10) :: (k, n) :: t else _
          rw [if_neg (fun z => ck z.1), if_pos ⟨rfl, c⟩, hm, List.append_assoc]
          rfl
    · have e : addP acc .waste = acc ++ [(-1, 10)] := by
        unfold addP
        rw [if_neg (fun z => c z.2)]
        rfl
      rw [e]
      cases hq : TimBuck.piecesOf w with
      | nil =>
        show acc ++ [(-1, 10)] = if (-1 : Int) = -1 ∧ _ then _ else acc ++ [(-1, 10)]
        rw [if_neg (fun z => c z.2)]
      | cons q t =>
        obtain ⟨k, n⟩ := q
        by_cases ck : k = -1
        · subst ck
          show (if (-1 : Int) = -1 ∧ _ then (acc ++ [(-1, 10)]).dropLast ++ (-1, ((acc ++ [((-1 : Int), (10 : Int))]).getLast?.map fun q => q.2).getD 0 + n) :: t else _) = if (-1 : Int) = -1 ∧ _ then _ else acc ++ (-1, n + 10) :: t
          rw [if_pos ⟨rfl, by rw [List.getLast?_concat]; rfl⟩, if_neg (fun z => c z.2), List.dropLast_concat, List.getLast?_concat]
          show acc ++ (-1, 10 + n) :: t = acc ++ (-1, n + 10) :: t
          rw [show 10 + n = n + 10 by omega]
        · have e3 : (match (k, n) :: t with
            | (-1, l) :: t => (-1, l + 10) :: t
            | t => (-1, 10) :: t) = ((-1 : Int), (10 : Int)) :: (k, n) :: t := by
            split
            · rename_i h
              injection h with h1 h2
              injection h1 with h3 h4
              exact absurd h3 ck
            · rfl
          rw [e3]
          show (if k = -1 ∧ _ then _ else (acc ++ [(-1, 10)]) ++ (k, n) :: t) = if (-1 : Int) = -1 ∧ _ then _ else acc ++ (-1, 10) :: (k, n) :: t
          rw [if_neg (fun z => ck z.1), if_neg (fun z => c z.2), List.append_assoc]
          rfl
theorem pieces_is (w : List TimBuck.Step) : piecesL w = TimBuck.piecesOf w := by
  unfold piecesL
  rw [fold_add]
  cases TimBuck.piecesOf w with
  | nil => rfl
  | cons q t =>
    obtain ⟨k, m⟩ := q
    show (if k = -1 ∧ _ then _ else [] ++ (k, m) :: t) = (k, m) :: t
    rw [if_neg (fun z => by
      have := z.2
      cases this)]
    rfl
end Sb
end
section
set_option maxHeartbeats 4000000
namespace Sb
open PySem PySem.Spec PySem.Calls PyProof.Rows L2 Evl
open TimBuck (Stem Product Piece diameterIn Log)
section
variable {K : PySem.W.Frag} {mg : Str → Option Value} {σ : L2.St} {H : Hp} {ta tb tc te : TE} {E' : XK}
theorem DeskAt.ctx {A : DkA} {S : Wrtibu.State} {B : StA} {s : Stem} (h : DeskAt K H A S) (hs : StemAt K H B s) : Ctx s S.products := ⟨hs.ok, h.pro.len, h.pro.ok⟩
theorem ex_board (T : Txt K mg) {A : DkA} {S : Wrtibu.State} {B : StA} {s : Stem} (h : Ev ta σ H (.ref A.d)) (hA : DeskAt K H A S) (hB : A.st = some B) (hs : StemAt K H B s) : EvX (tCall (sp_board_of K) [] E' (tCons (tFld K ta "stem") (tCons (tFld K ta "products") tNil))) σ H (isB K (boardL s S.products)) :=
  ex_call (ea_cons (evD_st T h hA hB) (ea_cons (evD_products T h hA) ea_nil)) (fun H1 e Q q => ⟨B, s, A.pl, A.pr, S.products, rfl, hs.mono e, hA.pro.mono e, isB_of q⟩) isB_mono
theorem el_most {a : Addr} {b : List (List TimBuck.Step)} (h : Ev ta σ H (.ref a)) (hB : BoardAt K H a b) (ok : BoardOk b) : EvL (tCall (sp_most_worths K) [] E' (tCons ta tNil)) σ H ((nI (rowB b)).map V.int) :=
  el_call (ea_cons h ea_nil) fun H1 e Q q _ => ⟨a, b, rfl, hB.mono e, ok, q⟩
/-- most_worths(a new board) -/
theorem el_mostX {b : List (List TimBuck.Step)} (h : EvX te σ H (isB K b)) (ok : BoardOk b) : EvL (tCall (sp_most_worths K) [] E' (tCons te tNil)) σ H ((nI (rowB b)).map V.int) := fun H1 e Q q =>
  h H1 e _ fun v H2 e2 ⟨p, hv, hp, hB⟩ => by
    subst hv
    exact ⟨p, b, rfl, hB, ok, fun r H3 hr e3 h3 => q r H3 (fresh_back e2 hr) (e2.trans e3) h3⟩
theorem ex_way {aB aM : Addr} {b : List (List TimBuck.Step)} {ms : List Nat} {i : Nat} (h1 : Ev ta σ H (.ref aB)) (h2 : Ev tb σ H (.ref aM)) (h3 : Ev tc σ H (.int (i : Int))) (hB : BoardAt K H aB b) (ok : BoardOk b) (hM : SqL K H aM ((nI ms).map V.int)) (hm : ms.length = b.length) (hi : i < b.length) :
    EvX (tCall (sp_best_way K) [] E' (tCons ta (tCons tb (tCons tc tNil)))) σ H (isWay K (WayIs b ms i)) :=
  ex_call (ea_cons h1 (ea_cons h2 (ea_cons h3 ea_nil))) (fun H1 e Q q => ⟨aB, b, aM, ms, i, rfl, hB.mono e, ok, ex_l e hM, hm, hi, q⟩) isWay_mono
theorem el_toldX {way : List TimBuck.Step → Prop} {W : List TimBuck.Step} (h : EvX te σ H (isWay K way)) (hW : ∀ w, way w → w = W) : EvL (tCall (sp_told_way K) [] E' (tCons te tNil)) σ H ((toldP (piecesL W)).map V.int) := fun H1 e Q q =>
  h H1 e _ fun v H2 e2 ⟨p, l, ts, hv, hp, hl, hlen, hR, hT⟩ => by
    subst hv
    have := hW l hl
    subst this
    exact ⟨p, l, rfl, ⟨ts, sq_of hR, hT⟩, by omega, fun r H3 hr e3 h3 => q r H3 (fresh_back e2 hr) (e2.trans e3) h3⟩
theorem toldP_len (W : List TimBuck.Step) : (toldP (piecesL W)).length ≤ 1 + 2 * W.length := by
  have h : ∀ l : List (Int × Int), (l.flatMap encQ).length = 2 * l.length := by
    intro l
    induction l with
    | nil => rfl
    | cons a l ih =>
      rw [List.flatMap_cons, List.length_append, ih]
      show 2 + 2 * l.length = 2 * (l.length + 1)
      omega
  unfold toldP
  rw [List.length_cons, h]
  have := piecesL_len W
  omega
theorem headD_get {ms : List Nat} {n : Nat} (h : ms.length = n + 1) : (nI ms)[0]? = some ((ms.headD 0 : Nat) : Int) := by
  cases ms with
  | nil => cases h
  | cons a r => rfl
theorem ways_told (w : Nat) (W : List TimBuck.Step) : (0 : Int) :: (w : Int) :: toldP (piecesL W) = Wrtibu.ways w W := by
  unfold Wrtibu.ways toldP
  rw [pieces_is]
  rfl
end
theorem way_ex {b : List (List TimBuck.Step)} {ms : List Nat} (ok : BoardOk b) : ∀ (m i : Nat), b.length - i ≤ m → i < b.length → ∃ w, WayIs b ms i w
  | 0, i, h, hi => by omega
  | m + 1, i, h, hi => by
    by_cases c : i + 1 < b.length
    · have hg : b[i]? = some b[i] := List.getElem?_eq_getElem hi
      obtain ⟨f1, f2⟩ := ok.fit i _ hg _ (bestS_mem (brS ms i) (ok.ne i _ hg c))
      obtain ⟨w, hw⟩ := way_ex ok (ms := ms) m (i + cellsS (bestS (brS ms i) b[i])) (by omega) f2
      exact ⟨_, .go c hg hw⟩
    · exact ⟨[], .stop (by omega)⟩
theorem best_len {s : Stem} {ps : TimBuck.Products} (c : Ctx s ps) : (TimBuck.best s ps).length ≤ 201 := by
  have ok := boardL_ok c
  have hbl : (boardL s ps).length = tens s + 1 := boardL_len
  obtain ⟨w, hw⟩ := way_ex ok (ms := TimBuck.row s ps) (boardL s ps).length 0 (by omega) (by omega)
  rw [← best_is c hw]
  have := hw.len ok (by omega)
  have := ok.len
  omega
section
variable {P : Program} {w : World} {K : PySem.W.Frag} {mg : Str → Option Value} {base : Heap} {vs : List V} {H : Hp} {Q : VK} {E : XK}
/-! ## calls 13, 15 -/
abbrev sp_tell_best (K : PySem.W.Frag) : Sp := spDeed K 0 fun _ _ => .best
theorem len_tell_best (h : sp_tell_best K vs H Q E) : vs.length = 3 := spDeed_len h
abbrev NL_tell_best : List Str := ["desk", "wholes", "row", "board", "most"]
theorem sc_tell_best : FnScope NL_tell_best ["desk", "wholes", "row"] (defScope s_tell_best) := ⟨rfl, rfl, rfl, by decide +kernel, rfl, by decide +kernel, by decide +kernel⟩
def t_tell_best (K : PySem.W.Frag) : TS := (tSeq (tIfS (tTest (tOp rIsN (tFld K (tVar 0) "stem") (tC .non))) (tRet (tLst (tCons (tC (.int (-3))) tNil))) tNext)
    (tSeq (tAsg (tCall (sp_board_of K) [] E0 (tCons (tFld K (tVar 0) "stem") (tCons (tFld K (tVar 0) "products") tNil))) (gName 3))
    (tSeq (tAsg (tCall (sp_most_worths K) [] E0 (tCons (tVar 3) tNil)) (gName 4))
    (tRet (tOp rCat (tLst (tCons (tC (.int 0)) (tCons (tOp (rIxL K) (tVar 4) (tC (.int 0))) tNil))) (tCall (sp_told_way K) [] E0 (tCons (tCall (sp_best_way K) [] E0 (tCons (tVar 3) (tCons (tVar 4) (tCons (tC (.int 0)) tNil)))) tNil)))))))
theorem w_tell_best (T : Txt K mg) (cdv : Value) (A : Around) (outer : List Env) (s : Shared) (H : Hp) (E : XK) (hr : Room 4 (A.deeper (envOfC "tell_best" (defScope s_tell_best) s.heap.objs.size (He.fAd K ("tell_best", none)) cdv))) :
    PSs (cxOf CX0 P w K mg base NL_tell_best "tell_best" (defScope s_tell_best) (He.fAd K ("tell_best", none)) cdv A outer s H E).nox (defBody s_tell_best) (t_tell_best K) := by
  exact (pss_cons (ps_if (pt_cmpR op_isN (pe_fld (pv 0) rfl) (by exact pe_non) (nomark _)) (pss_one (ps_ret (pe_lst (pa_cons (pe_gi rfl (T.int 88 rfl)) pa_nil)))) pss_nil)
    (pss_cons (ps_set (i := 3) sc_tell_best.nd rfl (.inl rfl) (pe_callG (ok_board_of T) (hr.mono (by decide)) rfl (T.glo 41 rfl) (pa_cons (pe_fld (pv 0) rfl) (pa_cons (pe_fld (pv 0) rfl) pa_nil))))
    (pss_cons (ps_set (i := 4) sc_tell_best.nd rfl (.inl rfl) (pe_callG (ok_most_worths T) (hr.mono (by decide)) rfl (T.glo 47 rfl) (pa_cons (pv 3) pa_nil)))
    (pss_one (ps_ret (pe_op op_cat (pe_lst (pa_cons (by exact pe_int) (pa_cons (pe_ix ix_list (pv 4) (by exact pe_int) (fun _ _ => rfl)) pa_nil))) (pe_callG (ok_told_way T) (hr.mono (by decide)) rfl (T.glo 51 rfl) (pa_cons (pe_callG (ok_best_way T) (hr.mono (by decide)) rfl (T.glo 49 rfl) (pa_cons (pv 3) (pa_cons (pv 4) (pa_cons (by exact pe_int) pa_nil)))) pa_nil))))))))
theorem pure_tell_best (T : Txt K mg) (h : sp_tell_best K vs H Q E) : t_tell_best K { nx := fun _ H' => Q .non H', rt := Q } (start NL_tell_best vs) H := by
  obtain ⟨A, S, aW, ws, aR, rs, rfl, hA, hW, hR, hn, hr, k⟩ := h
  have st : Wrtibu.step S .best = (S, match S.stem with
    | none => TimBase.NONE
    | some s => Wrtibu.ways (TimBuck.most s S.products) (TimBuck.best s S.products)) := rfl
  refine q_when (et_test (ev_noStem T (ev_var rfl) hA)) (fun hb H3 e3 => k.ret1 hA ?_ e3 rfl) (fun hb H3 e1 => ?_)
  · rw [Option.isNone_iff_eq_none.mp hb] at st
    exact st
  obtain ⟨s, hS⟩ := stem_is hb
  obtain ⟨B, hB, hs⟩ := hA.st_some hS
  rw [hS] at st
  have c := hA.ctx hs
  have n := c.nums
  have ok := boardL_ok c
  have hbl : (boardL s S.products).length = tens s + 1 := boardL_len
  have hrl : (rowB (boardL s S.products)).length = (boardL s S.products).length := rowB_len _
  refine q_asgX (ex_board T (ev_var rfl) (hA.mono e1) hB (hs.mono e1)) fun v H4 e4 hv => ?_
  obtain ⟨aB, rfl, hfB, hBd⟩ := hv
  refine q_asgL (el_most (ev_var rfl) hBd ok) fun aM H5 hfM e5 hM => ?_
  have e' := (e1.trans e4).trans e5
  have hrow := rowB_is c
  have huniq : ∀ way, WayIs (boardL s S.products) (rowB (boardL s S.products)) 0 way → way = TimBuck.best s S.products := fun way hw => best_is c (by rw [← hrow]; exact hw)
  have hl := best_len c
  have hl2 := toldP_len (TimBuck.best s S.products)
  refine k.ret (out := 0 :: ((TimBuck.most s S.products : Nat) : Int) :: toldP (piecesL (TimBuck.best s S.products))) hA (el_cat (el_lst (ea_cons ev_c (ea_cons (ev_ixL (ev_var rfl) ev_c (sq_of hM) (at_int (n := 0) rfl (headD_get (n := tens s) (by rw [hrl, hbl])))) ea_nil)) (by show 2 ≤ 100000; decide)) (el_toldX (ex_way (ev_var rfl) (ev_var rfl) (ev_c (v := .int ((0 : Nat) : Int))) (hBd.mono e5) ok (sq_of hM) hrl (by omega)) huniq) (by rw [List.length_map]; show 2 + _ ≤ _; omega)) (st.trans ?_) ?_ e' rfl
  · rw [ways_told]
  · rw [hrow]
    rfl
theorem ok_tell_best (T : Txt K mg) : Good P w K mg base ("tell_best", none) 5 ["desk", "wholes", "row"] (sp_tell_best K) :=
  good_mk (d := d_tell_best) T 72 rfl rfl rfl sc_tell_best (fun vs H Q E h => len_tell_best h) (fun _ _ _ _ _ _ us hl => match us, hl with | [_, _, _], _ => rfl) (fun cdv A outer s H E hr => w_tell_best T cdv A outer s H E hr) (fun vs H Q E h => pure_tell_best T h)
abbrev sp_tell_worths (K : PySem.W.Frag) : Sp := spDeed K 0 fun _ _ => .worths
theorem len_tell_worths (h : sp_tell_worths K vs H Q E) : vs.length = 3 := spDeed_len h
abbrev NL_tell_worths : List Str := ["desk", "wholes", "row", "most"]
theorem sc_tell_worths : FnScope NL_tell_worths ["desk", "wholes", "row"] (defScope s_tell_worths) := ⟨rfl, rfl, rfl, by decide +kernel, rfl, by decide +kernel, by decide +kernel⟩
def t_tell_worths (K : PySem.W.Frag) : TS := (tSeq (tIfS (tTest (tOp rIsN (tFld K (tVar 0) "stem") (tC .non))) (tRet (tLst (tCons (tC (.int (-3))) tNil))) tNext)
    (tSeq (tAsg (tCall (sp_most_worths K) [] E0 (tCons (tCall (sp_board_of K) [] E0 (tCons (tFld K (tVar 0) "stem") (tCons (tFld K (tVar 0) "products") tNil))) tNil)) (gName 3))
    (tRet (tOp rCat (tLst (tCons (tC (.int 0)) (tCons (tCB (rLenS K) (tCons (tVar 3) tNil)) tNil))) (tVar 3)))))
theorem w_tell_worths (T : Txt K mg) (cdv : Value) (A : Around) (outer : List Env) (s : Shared) (H : Hp) (E : XK) (hr : Room 4 (A.deeper (envOfC "tell_worths" (defScope s_tell_worths) s.heap.objs.size (He.fAd K ("tell_worths", none)) cdv))) :
    PSs (cxOf CX0 P w K mg base NL_tell_worths "tell_worths" (defScope s_tell_worths) (He.fAd K ("tell_worths", none)) cdv A outer s H E).nox (defBody s_tell_worths) (t_tell_worths K) := by
  exact (pss_cons (ps_if (pt_cmpR op_isN (pe_fld (pv 0) rfl) (by exact pe_non) (nomark _)) (pss_one (ps_ret (pe_lst (pa_cons (pe_gi rfl (T.int 88 rfl)) pa_nil)))) pss_nil)
    (pss_cons (ps_set (i := 3) sc_tell_worths.nd rfl (.inl rfl) (pe_callG (ok_most_worths T) (hr.mono (by decide)) rfl (T.glo 47 rfl) (pa_cons (pe_callG (ok_board_of T) (hr.mono (by decide)) rfl (T.glo 41 rfl) (pa_cons (pe_fld (pv 0) rfl) (pa_cons (pe_fld (pv 0) rfl) pa_nil))) pa_nil)))
    (pss_one (ps_ret (pe_op op_cat (pe_lst (pa_cons (by exact pe_int) (pa_cons (pe_callB call_len_seq rfl (T.free 78 rfl) (by decide +kernel) (pa_cons (pv 3) pa_nil)) pa_nil))) (pv 3))))))
theorem pure_tell_worths (T : Txt K mg) (h : sp_tell_worths K vs H Q E) : t_tell_worths K { nx := fun _ H' => Q .non H', rt := Q } (start NL_tell_worths vs) H := by
  obtain ⟨A, S, aW, ws, aR, rs, rfl, hA, hW, hR, hn, hr, k⟩ := h
  have st : Wrtibu.step S .worths = (S, match S.stem with
    | none => TimBase.NONE
    | some s => 0 :: ((TimBuck.row s S.products).length : Int) :: (TimBuck.row s S.products).map fun (w : Nat) => (w : Int)) := rfl
  refine q_when (et_test (ev_noStem T (ev_var rfl) hA)) (fun hb H3 e3 => k.ret1 hA ?_ e3 rfl) (fun hb H3 e1 => ?_)
  · rw [Option.isNone_iff_eq_none.mp hb] at st
    exact st
  obtain ⟨s, hS⟩ := stem_is hb
  obtain ⟨B, hB, hs⟩ := hA.st_some hS
  rw [hS] at st
  have c := hA.ctx hs
  have n := c.nums
  have ok := boardL_ok c
  have hbl : (boardL s S.products).length = tens s + 1 := boardL_len
  have hrl : (rowB (boardL s S.products)).length = (boardL s S.products).length := rowB_len _
  refine q_asgL (el_mostX (ex_board T (ev_var rfl) (hA.mono e1) hB (hs.mono e1)) ok) fun aM H5 hfM e5 hM => ?_
  refine k.ret (out := 0 :: ((rowB (boardL s S.products)).length : Int) :: nI (rowB (boardL s S.products))) hA (el_catV (el_lst (ea_cons ev_c (ea_cons (ev_is (ev_len (ev_var rfl) (sq_of hM)) (by rw [List.length_map, List.length_map])) ea_nil)) (by show 2 ≤ 100000; decide)) (ev_var rfl) hM (by rw [List.length_map, List.length_map, hrl, hbl]; show 2 + _ ≤ _; omega)) (st.trans ?_) rfl (e1.trans e5) rfl
  rw [rowB_is c]
theorem ok_tell_worths (T : Txt K mg) : Good P w K mg base ("tell_worths", none) 5 ["desk", "wholes", "row"] (sp_tell_worths K) :=
  good_mk (d := d_tell_worths) T 74 rfl rfl rfl sc_tell_worths (fun vs H Q E h => len_tell_worths h) (fun _ _ _ _ _ _ us hl => match us, hl with | [_, _, _], _ => rfl) (fun cdv A outer s H E hr => w_tell_worths T cdv A outer s H E hr) (fun vs H Q E h => pure_tell_worths T h)
end
end Sb
end
section
set_option maxHeartbeats 4000000
namespace Sb
open TimBuck (Stem Product Piece Log)
section
variable {s : Stem} {ps : TimBuck.Products}
theorem steps_nodup (c : Ctx s ps) (a : Nat) : (stepsAt s ps a).Nodup := by
  unfold stepsAt
  refine List.nodup_append.mpr ⟨?_, ?_, fun x hx y hy e => ?_⟩
  · refine List.pairwise_map.mpr ((pair_logsAt s ps a).imp ?_)
    intro x y h e
    cases e
    unfold LR at h
    omega
  · split
    · exact List.nodup_cons.mpr ⟨List.not_mem_nil, List.nodup_nil⟩
    · exact List.nodup_nil
  · obtain ⟨z, _, rfl⟩ := List.mem_map.mp hx
    split at hy
    · rcases List.mem_cons.mp hy with rfl | hy
      · cases e
      · exact absurd hy List.not_mem_nil
    · exact absurd hy List.not_mem_nil
/-- steps told by four numbers -/
def eqS (x y : TimBuck.Step) : Bool := ((cellsS x : Int) == (cellsS y : Int)) && ((kS x == kS y) && (((longS x : Int) == (longS y : Int)) && (((worthS x : Int) == (worthS y : Int)) && true)))
theorem eqS_is {x y : TimBuck.Step} (hx : x.takes = 10 * cellsS x) (hy : y.takes = 10 * cellsS y) : eqS x y = (x == y) := by
  rw [Bool.eq_iff_iff, beq_iff_eq]
  constructor
  · intro h
    unfold eqS at h
    simp only [Bool.and_eq_true, beq_iff_eq, and_true] at h
    obtain ⟨h1, h2, h3, h4⟩ := h
    cases x with
    | waste =>
      cases y with
      | waste => rfl
      | log y =>
        have : (-1 : Int) = (y.product : Int) := h2
        omega
    | log x =>
      cases y with
      | waste =>
        have : (x.product : Int) = -1 := h2
        omega
      | log y =>
        have e1 : (x.product : Int) = (y.product : Int) := h2
        have e2 : (x.long : Int) = (y.long : Int) := h3
        have e3 : (x.worth : Int) = (y.worth : Int) := h4
        have e4 : x.takes = y.takes := by
          have a1 : x.takes = 10 * cellsS (.log x) := hx
          have a2 : y.takes = 10 * cellsS (.log y) := hy
          omega
        obtain ⟨p, l, t, w⟩ := x
        obtain ⟨p', l', t', w'⟩ := y
        have b1 : p = p' := by
          have : (p : Int) = (p' : Int) := e1
          omega
        have b2 : l = l' := by
          have : (l : Int) = (l' : Int) := e2
          omega
        have b3 : w = w' := by
          have : (w : Int) = (w' : Int) := e3
          omega
        have b4 : t = t' := e4
        rw [b1, b2, b3, b4]
  · rintro rfl
    unfold eqS
    simp
theorem row_two (c : Ctx s ps) (h : 0 < tens s) : ∃ w v r, TimBuck.row s ps = w :: v :: r ∧ (TimBuck.row s ps).drop 1 = v :: r := by
  obtain ⟨v, r, h1, h2⟩ := row_drop c h
  rw [List.drop_zero] at h1
  exact ⟨_, v, r, h1, h2⟩
theorem best_head (c : Ctx s ps) (h : 0 < tens s) : (TimBuck.best s ps).head? = some (bestS (brS (TimBuck.row s ps) 0) (stepsAt s ps s.foot)) := by
  have ok := boardL_ok c
  have hbl : (boardL s ps).length = tens s + 1 := boardL_len
  obtain ⟨w, hw⟩ := way_ex ok (ms := TimBuck.row s ps) (boardL s ps).length 0 (by omega) (by omega)
  rw [← best_is c hw]
  cases hw with
  | stop h1 => omega
  | go h1 h2 h3 =>
    rw [boardL_get (by omega)] at h2
    cases h2
    rfl
theorem second_none (c : Ctx s ps) (h : (stepsAt s ps s.foot).length < 2) : TimBuck.second s ps = none := by
  unfold TimBuck.second
  by_cases h0 : 0 < tens s
  · obtain ⟨w, v, r, h1, h2⟩ := row_two c h0
    have n := c.nums
    have hs : stepsAt s ps s.foot = (TimBuck.logsAt s ps s.foot).map TimBuck.Step.log ++ [.waste] := by
      unfold stepsAt
      rw [if_pos (by omega)]
    have hl : TimBuck.logsAt s ps s.foot = [] := by
      rw [hs, List.length_append, List.length_map, List.length_singleton] at h
      exact List.length_eq_zero_iff.mp (by omega)
    have hb := best_head c h0
    rw [hs, hl] at hb
    have e : bestS (brS (TimBuck.row s ps) 0) (([] : List Log).map TimBuck.Step.log ++ [TimBuck.Step.waste]) = .waste := by
      have := bestS_mem (brS (TimBuck.row s ps) 0) (l := [TimBuck.Step.waste]) (by simp)
      rcases List.mem_cons.mp this with z | z
      · exact z
      · exact absurd z List.not_mem_nil
    rw [e] at hb
    rw [hb, h1, hl]
    rfl
  · have n := c.nums
    have hr : TimBuck.row s ps = [0] := by
      unfold TimBuck.row
      rw [show (s.top - s.foot) / 10 = 0 by unfold tens at h0; omega]
      rfl
    rw [hr]
theorem other_ne {α : Type} [DecidableEq α] {l : List α} (nd : l.Nodup) (h : 2 ≤ l.length) (x : α) : l.filter (fun y => y != x) ≠ [] := by
  match l, h with
  | a :: b :: r, _ =>
    intro z
    have hz : ∀ y ∈ a :: b :: r, y = x := fun y hy => by
      by_cases e : y = x
      · exact e
      · have : y ∈ (a :: b :: r).filter (fun y => y != x) := List.mem_filter.mpr ⟨hy, by simpa using e⟩
        rw [z] at this
        exact absurd this List.not_mem_nil
    have h1 := hz a (List.mem_cons_self ..)
    have h2 := hz b (List.mem_cons_of_mem _ (List.mem_cons_self ..))
    have h3 := (List.nodup_cons.mp nd).1
    rw [h1, h2] at h3
    exact h3 (List.mem_cons_self ..)
theorem second_law (c : Ctx s ps) (h2 : 2 ≤ (stepsAt s ps s.foot).length) : 0 < tens s ∧ (stepsAt s ps s.foot).filter (fun y => y != bestS (brS (TimBuck.row s ps) 0) (stepsAt s ps s.foot)) ≠ [] ∧
    ∀ way, WayIs (boardL s ps) (TimBuck.row s ps) (cellsS (bestS (brS (TimBuck.row s ps) 0) ((stepsAt s ps s.foot).filter (fun y => y != bestS (brS (TimBuck.row s ps) 0) (stepsAt s ps s.foot))))) way →
      TimBuck.second s ps = some (brS (TimBuck.row s ps) 0 (bestS (brS (TimBuck.row s ps) 0) ((stepsAt s ps s.foot).filter (fun y => y != bestS (brS (TimBuck.row s ps) 0) (stepsAt s ps s.foot)))), bestS (brS (TimBuck.row s ps) 0) ((stepsAt s ps s.foot).filter (fun y => y != bestS (brS (TimBuck.row s ps) 0) (stepsAt s ps s.foot))) :: way) := by
  have n := c.nums
  have ok := boardL_ok c
  have h0 : 0 < tens s := by
    by_cases z : 0 < tens s
    · exact z
    · have e : s.top = s.foot := by omega
      have : stepsAt s ps s.foot = [] := by
        unfold stepsAt
        have hl : TimBuck.logsAt s ps s.foot = [] := by
          unfold TimBuck.logsAt
          rw [e, Nat.sub_self]
          rfl
        rw [hl, if_neg (by omega)]
        rfl
      rw [this] at h2
      exact absurd h2 (by simp)
  have hne := other_ne (steps_nodup c s.foot) h2 (bestS (brS (TimBuck.row s ps) 0) (stepsAt s ps s.foot))
  refine ⟨h0, hne, fun way hw => ?_⟩
  have hbh := best_head c h0
  generalize hx : bestS (brS (TimBuck.row s ps) 0) (stepsAt s ps s.foot) = x at hne hw hbh ⊢
  obtain ⟨w, v, r, e1, e2⟩ := row_two c h0
  have hmem : ∀ y ∈ (stepsAt s ps s.foot).filter (fun y => y != x), y ∈ stepsAt s ps (s.foot + 10 * 0) := fun y hy => (List.mem_filter.mp hy).1
  have hbr : ∀ y ∈ (stepsAt s ps s.foot).filter (fun y => y != x), brS (TimBuck.row s ps) 0 y = brR (v :: r) y := fun y hy => brS_row c (i := 0) e2 (steps_fact c (Nat.zero_le _) (hmem y hy)).1
  have hs : stepsAt s ps s.foot = (TimBuck.logsAt s ps s.foot).map TimBuck.Step.log ++ [.waste] := by
    unfold stepsAt
    rw [if_pos (by omega)]
  have hf := bestS_find (brR (v :: r)) hne
  have hbe : bestS (brS (TimBuck.row s ps) 0) ((stepsAt s ps s.foot).filter (fun y => y != x)) = bestS (brR (v :: r)) ((stepsAt s ps s.foot).filter (fun y => y != x)) := bestS_congr hbr
  have hbm := bestS_mem (brS (TimBuck.row s ps) 0) hne
  have hval := hbr _ hbm
  have hfacts := steps_fact c (Nat.zero_le _) (hmem _ hbm)
  rw [hbe] at hw hval hfacts hbm ⊢
  generalize hB : bestS (brR (v :: r)) ((stepsAt s ps s.foot).filter (fun y => y != x)) = B at hf hw hval hfacts hbm ⊢
  have hway := way_is c hw (by omega) (s.cells.length + 1) (by have : s.top = 10 * s.cells.length := rfl; omega)
  unfold TimBuck.second
  rw [hbh, e1]
  show ((((TimBuck.logsAt s ps s.foot).map TimBuck.Step.log ++ [TimBuck.Step.waste]).filter (fun y => y != x)).find? (fun y => (match y with
    | .log z => TimBuck.brings (v :: r) z
    | .waste => v) == (((TimBuck.logsAt s ps s.foot).map TimBuck.Step.log ++ [TimBuck.Step.waste]).filter (fun y => y != x)).foldl (fun m y => max m (match y with
    | .log z => TimBuck.brings (v :: r) z
    | .waste => v)) 0)).map _ = _
  have ew : (fun y : TimBuck.Step => match y with
    | .log z => TimBuck.brings (v :: r) z
    | .waste => v) = brR (v :: r) := by
    funext y
    cases y with
    | log z => rfl
    | waste =>
      show v = 0 + v
      omega
  rw [← hs]
  have e3 : ((stepsAt s ps s.foot).filter (fun y => y != x)).find? (fun y => (match y with
    | .log z => TimBuck.brings (v :: r) z
    | .waste => v) == ((stepsAt s ps s.foot).filter (fun y => y != x)).foldl (fun m y => max m (match y with
    | .log z => TimBuck.brings (v :: r) z
    | .waste => v)) 0) = some B := by
    rw [← hf]
    have : ∀ y : TimBuck.Step, (match y with
      | .log z => TimBuck.brings (v :: r) z
      | .waste => v) = brR (v :: r) y := fun y => congrFun ew y
    simp only [this]
  rw [e3]
  have hmx : ((stepsAt s ps s.foot).filter (fun y => y != x)).foldl (fun m y => max m (match y with
    | .log z => TimBuck.brings (v :: r) z
    | .waste => v)) 0 = brR (v :: r) B := by
    have := List.find?_some hf
    have e4 := eq_of_beq this
    rw [e4]
    have e5 : ∀ y : TimBuck.Step, (match y with
      | .log z => TimBuck.brings (v :: r) z
      | .waste => v) = brR (v :: r) y := fun y => congrFun ew y
    simp only [e5]
  show some (((stepsAt s ps s.foot).filter (fun y => y != x)).foldl (fun m y => max m (match y with
    | .log z => TimBuck.brings (v :: r) z
    | .waste => v)) 0, B :: TimBuck.wayFrom s ps (s.cells.length + 1) (s.foot + B.takes) ((v :: r).drop (B.takes / 10 - 1))) = _
  have ed : (v :: r).drop (B.takes / 10 - 1) = (TimBuck.row s ps).drop (cellsS B) := by
    rw [← e2, List.drop_drop]
    congr 1
    show 1 + (cellsS B - 1) = cellsS B
    omega
  have et : s.foot + B.takes = s.foot + 10 * cellsS B := by rw [← hfacts.2.1]
  rw [hmx, ed, et, hway, ← e1, hval]
end
end Sb
end
section
set_option maxHeartbeats 4000000
namespace Sb
open PySem PySem.Spec PySem.Calls PyProof.Rows L2 Evl
open TimBuck (Stem Product Piece diameterIn Log)
section
variable {K : PySem.W.Frag} {mg : Str → Option Value} {σ : L2.St} {H : Hp} {ta tb tc te : TE} {E' : XK}
theorem RowAt.lenE {a : Addr} {l : List TimBuck.Step} (h : RowAt K H a l) (ha : Ev ta σ H (.ref a)) : Ev (tCB (rLenS K) (tCons ta tNil)) σ H (.int (l.length : Int)) := by
  obtain ⟨ts, h1, h2⟩ := h
  exact ev_is (ev_len ha h1) (by rw [List.length_map, h2.length, List.length_map])
theorem dp_step {t : Addr} {x : TimBuck.Step} (h : SqT K H t ((stepI x).map V.int)) : Dp K H (.ref t) (.tuple [.int (cellsS x : Int), .int (kS x), .int (longS x : Int), .int (worthS x : Int)]) := by
  rw [stepI_eq] at h
  exact .tup h (.cons (.int _) (.cons (.int _) (.cons (.int _) (.cons (.int _) .nil))))
theorem eqv_step (x y : TimBuck.Step) : PyData.eqv (.tuple [.int (cellsS x : Int), .int (kS x), .int (longS x : Int), .int (worthS x : Int)]) (.tuple [.int (cellsS y : Int), .int (kS y), .int (longS y : Int), .int (worthS y : Int)]) = eqS x y := by
  simp only [PyData.eqv, PyData.eqvAll]
  rfl
theorem shaped_step (a b c d : Int) : SeqAt.shaped (.tuple [.int a, .int b, .int c, .int d]) = true := by
  unfold SeqAt.shaped
  rw [Bool.and_eq_true]
  exact ⟨rfl, rfl⟩
theorem ev_neStep {t u : Addr} {x y : TimBuck.Step} (h1 : Ev ta σ H (.ref t)) (h2 : Ev tb σ H (.ref u)) (hx : SqT K H t ((stepI x).map V.int)) (hy : SqT K H u ((stepI y).map V.int)) : Ev (tOp (rNeD K) ta tb) σ H (.bl (!eqS x y)) :=
  ev_op h1 h2 fun H1 e Q q => ⟨_, _, dp_step (ex_t e hx), dp_step (ex_t e hy), shaped_step _ _ _ _, shaped_step _ _ _ _, by
    rw [eqv_step]
    exact q H1 (Ex.refl H1)⟩
/-- [a step] + a new way -/
theorem ex_cons {way : List TimBuck.Step → Prop} {t : Addr} {x : TimBuck.Step} (h : Ev ta σ H (.ref t)) (hx : SqT K H t ((stepI x).map V.int)) (hw : EvX te σ H (isWay K way)) : EvX (tOp rCat (tLst (tCons ta tNil)) te) σ H (fun Hp v Hq => ∃ (p : Addr) (l : List TimBuck.Step), v = .ref p ∧ Hp p = none ∧ way l ∧ l.length ≤ 201 ∧ RowAt K Hq p (x :: l)) := fun H1 e Q q =>
  (el_lst (ea_cons h ea_nil) (by show 1 ≤ 100000; decide)) H1 e _ fun p H2 hp e2 h2 => hw H2 (e.trans e2) _ fun v H3 e3 ⟨p', l, ts, hv, hp', hl, hlen, hR, hT⟩ => by
    subst hv
    refine ⟨p, p', [.ref t], ts.map V.ref, rfl, rfl, e3 _ _ h2, hR, ?_, fun r hr => ?_⟩
    · rw [List.length_map, hT.length, List.length_map, List.length_singleton]
      exact sz_of (by omega)
    · refine q _ _ ((e2.trans e3).trans (Ex.new hr)) ⟨r, l, rfl, fresh_back (e2.trans e3) hr, hl, hlen, t :: ts, sq_of upd_same, ?_⟩
      exact .cons (ex_t (((e.trans e2).trans e3).trans (Ex.new hr)) hx) (tups_ex (Ex.new hr) hT)
end
section
variable {P : Program} {w : World} {K : PySem.W.Frag} {mg : Str → Option Value} {base : Heap} {vs : List V} {H : Hp} {Q : VK} {E : XK}
/-! ## call 14 -/
abbrev sp_tell_second (K : PySem.W.Frag) : Sp := spDeed K 0 fun _ _ => .second
theorem len_tell_second (h : sp_tell_second K vs H Q E) : vs.length = 3 := spDeed_len h
abbrev NL_tell_second : List Str := ["desk", "wholes", "row", "board", "most", "first", "others", "begin", "way", "step"]
theorem sc_tell_second : FnScope NL_tell_second ["desk", "wholes", "row"] (defScope s_tell_second) := ⟨rfl, rfl, rfl, by decide +kernel, rfl, by decide +kernel, by decide +kernel⟩
def t_tell_second (K : PySem.W.Frag) : TS := (tSeq (tIfS (tTest (tOp rIsN (tFld K (tVar 0) "stem") (tC .non))) (tRet (tLst (tCons (tC (.int (-3))) tNil))) tNext)
    (tSeq (tAsg (tCall (sp_board_of K) [] E0 (tCons (tFld K (tVar 0) "stem") (tCons (tFld K (tVar 0) "products") tNil))) (gName 3))
    (tSeq (tIfS (tTest (tOp (rI0 fun i j => .bl (decide (i < j))) (tCB (rLenS K) (tCons (tOp (rIxL K) (tVar 3) (tC (.int 0))) tNil)) (tC (.int 2)))) (tRet (tLst (tCons (tC (.int (-4))) tNil))) tNext)
    (tSeq (tAsg (tCall (sp_most_worths K) [] E0 (tCons (tVar 3) tNil)) (gName 4))
    (tSeq (tAsg (tCall (sp_best_step K) [] E0 (tCons (tOp (rIxL K) (tVar 3) (tC (.int 0))) (tCons (tVar 4) (tCons (tC (.int 0)) tNil)))) (gName 5))
    (tSeq (tAsg (tLc (iList K (tOp (rIxL K) (tVar 3) (tC (.int 0)))) (gName 9) (tTest (tOp (rNeD K) (tVar 9) (tVar 5))) (tVar 9) [9]) (gName 6))
    (tSeq (tAsg (tCall (sp_best_step K) [] E0 (tCons (tVar 6) (tCons (tVar 4) (tCons (tC (.int 0)) tNil)))) (gName 7))
    (tSeq (tAsg (tOp rCat (tLst (tCons (tVar 7) tNil)) (tCall (sp_best_way K) [] E0 (tCons (tVar 3) (tCons (tVar 4) (tCons (tOp (rIxT K) (tVar 7) (tC (.int 0))) tNil))))) (gName 8))
    (tRet (tOp rCat (tLst (tCons (tC (.int 0)) (tCons (tCall (sp_way_worth K) [] E0 (tCons (tVar 7) (tCons (tVar 4) (tCons (tC (.int 0)) tNil)))) tNil))) (tCall (sp_told_way K) [] E0 (tCons (tVar 8) tNil))))))))))))
theorem w_tell_second (T : Txt K mg) (cdv : Value) (A : Around) (outer : List Env) (s : Shared) (H : Hp) (E : XK) (hr : Room 4 (A.deeper (envOfC "tell_second" (defScope s_tell_second) s.heap.objs.size (He.fAd K ("tell_second", none)) cdv))) :
    PSs (cxOf CX0 P w K mg base NL_tell_second "tell_second" (defScope s_tell_second) (He.fAd K ("tell_second", none)) cdv A outer s H E).nox (defBody s_tell_second) (t_tell_second K) := by
  exact (pss_cons (ps_if (pt_cmpR op_isN (pe_fld (pv 0) rfl) (by exact pe_non) (nomark _)) (pss_one (ps_ret (pe_lst (pa_cons (pe_gi rfl (T.int 88 rfl)) pa_nil)))) pss_nil)
    (pss_cons (ps_set (i := 3) sc_tell_second.nd rfl (.inl rfl) (pe_callG (ok_board_of T) (hr.mono (by decide)) rfl (T.glo 41 rfl) (pa_cons (pe_fld (pv 0) rfl) (pa_cons (pe_fld (pv 0) rfl) pa_nil))))
    (pss_cons (ps_if (pt_cmpR op_lt (pe_callB call_len_seq rfl (T.free 78 rfl) (by decide +kernel) (pa_cons (pe_ix ix_list (pv 3) (by exact pe_int) (fun _ _ => rfl)) pa_nil)) (by exact pe_int) (nomark _)) (pss_one (ps_ret (pe_lst (pa_cons (pe_gi rfl (T.int 89 rfl)) pa_nil)))) pss_nil)
    (pss_cons (ps_set (i := 4) sc_tell_second.nd rfl (.inl rfl) (pe_callG (ok_most_worths T) (hr.mono (by decide)) rfl (T.glo 47 rfl) (pa_cons (pv 3) pa_nil)))
    (pss_cons (ps_set (i := 5) sc_tell_second.nd rfl (.inr rfl) (pe_callG (ok_best_step T) (hr.mono (by decide)) rfl (T.glo 48 rfl) (pa_cons (pe_ix ix_list (pv 3) (by exact pe_int) (fun _ _ => rfl)) (pa_cons (pv 4) (pa_cons (by exact pe_int) pa_nil)))))
    (pss_cons (ps_setLc (i := 6) (own := [("step", 9)]) (g := gName 9) (tt := (tTest (tOp (rNeD K) (tVar 9) (tVar 5)))) rfl sc_tell_second.nd rfl rfl (sw_true rfl rfl rfl (by decide +kernel)) (pi_list (pe_ix ix_list (pv 3) (by exact pe_int) (fun _ _ => rfl))) (blkOk_by (own := [("step", 9)]) (N := NL_tell_second) (sc := (defScope s_tell_second)) (by decide +kernel)) (fun _ _ _ _ _ => pg_name (i := 9) sc_tell_second.nd rfl (.inl rfl)) (fun _ _ _ _ _ => (pts_one (pt_cmpR (op_neD (X := _) (Room.units hr)) (pv 9) (pv 5) (nomark _)))) (fun _ _ _ _ _ => (pv 9)))
    (pss_cons (ps_set (i := 7) sc_tell_second.nd rfl (.inl rfl) (pe_callG (ok_best_step T) (hr.mono (by decide)) rfl (T.glo 48 rfl) (pa_cons (pv 6) (pa_cons (pv 4) (pa_cons (by exact pe_int) pa_nil)))))
    (pss_cons (ps_set (i := 8) sc_tell_second.nd rfl (.inl rfl) (pe_op op_cat (pe_lst (pa_cons (pv 7) pa_nil)) (pe_callG (ok_best_way T) (hr.mono (by decide)) rfl (T.glo 49 rfl) (pa_cons (pv 3) (pa_cons (pv 4) (pa_cons (pe_ix ix_tup (pv 7) (by exact pe_int) (fun _ _ => rfl)) pa_nil))))))
    (pss_one (ps_ret (pe_op op_cat (pe_lst (pa_cons (by exact pe_int) (pa_cons (pe_callG (ok_way_worth T) (hr.mono (by decide)) rfl (T.glo 46 rfl) (pa_cons (pv 7) (pa_cons (pv 4) (pa_cons (by exact pe_int) pa_nil)))) pa_nil))) (pe_callG (ok_told_way T) (hr.mono (by decide)) rfl (T.glo 51 rfl) (pa_cons (pv 8) pa_nil)))))))))))))
theorem pure_tell_second (T : Txt K mg) (h : sp_tell_second K vs H Q E) : t_tell_second K { nx := fun _ H' => Q .non H', rt := Q } (start NL_tell_second vs) H := by
  obtain ⟨A, S, aW, ws, aR, rs, rfl, hA, hW, hR, hn, hr, k⟩ := h
  have st : Wrtibu.step S .second = (S, match S.stem with
    | none => TimBase.NONE
    | some s => match TimBuck.second s S.products with
      | none => TimBase.CANT
      | some x => Wrtibu.ways x.1 x.2) := rfl
  refine q_when (et_test (ev_noStem T (ev_var rfl) hA)) (fun hb H3 e3 => k.ret1 hA ?_ e3 rfl) (fun hb H3 e1 => ?_)
  · rw [Option.isNone_iff_eq_none.mp hb] at st
    exact st
  obtain ⟨s, hS⟩ := stem_is hb
  obtain ⟨B, hB, hs⟩ := hA.st_some hS
  rw [hS] at st
  have c := hA.ctx hs
  have n := c.nums
  have ok := boardL_ok c
  have hbl : (boardL s S.products).length = tens s + 1 := boardL_len
  have hrl : (rowB (boardL s S.products)).length = (boardL s S.products).length := rowB_len _
  have hrow := rowB_is c
  refine q_asgX (ex_board T (ev_var rfl) (hA.mono e1) hB (hs.mono e1)) fun v H4 e4 hv => ?_
  obtain ⟨aB, rfl, hfB, hBd⟩ := hv
  obtain ⟨l0, hl0⟩ : ∃ l0, l0 = stepsAt s S.products s.foot := ⟨_, rfl⟩
  have hg : (boardL s S.products)[0]? = some l0 := by
    rw [boardL_get (Nat.zero_le _), hl0]
    rfl
  obtain ⟨r0, hr0, hix⟩ : ∃ r, RowAt K H4 r l0 ∧ ∀ {σ : L2.St} {H'}, σ[3]? = some (some (.ref aB)) → Ex H4 H' → Ev (tOp (rIxL K) (tVar 3) (tC (.int 0))) σ H' (.ref r) := by
    obtain ⟨rows, h1, h2⟩ := id hBd
    have hl := h2.length
    have e : rows[0]? = some rows[0] := List.getElem?_eq_getElem (by omega)
    exact ⟨_, paired_get2 h2 e hg, fun {σ H'} hσ e' => ev_ixL (ev_var hσ) ev_c (ex_l e' h1) (at_ref (n := 0) rfl e)⟩
  have e14 := e1.trans e4
  refine q_when (et_test (ev_lt (hr0.lenE (hix rfl (Ex.refl _))) ev_c)) (fun hb H5 e5 => k.ret1 hA (st.trans ?_) (e14.trans e5) rfl) (fun hb H5 e5 => ?_)
  · have hlt : (stepsAt s S.products s.foot).length < 2 := by
      have := of_decide_eq_true hb
      rw [← hl0]
      omega
    show (S, match TimBuck.second s S.products with
      | none => TimBase.CANT
      | some x => Wrtibu.ways x.1 x.2) = _
    rw [second_none c hlt]
    rfl
  have h2 : 2 ≤ (stepsAt s S.products s.foot).length := by
    have := of_decide_eq_false hb
    rw [← hl0]
    omega
  obtain ⟨h0, hne, hsec⟩ := second_law c h2
  rw [← hrow, ← hl0] at hne hsec
  have hfit : ∀ x ∈ l0, 1 ≤ cellsS x ∧ x.takes = 10 * cellsS x ∧ 0 + cellsS x ≤ tens s := fun x hx => steps_fact c (Nat.zero_le _) (by rw [hl0] at hx; exact hx)
  refine q_asgL (el_most (ev_var rfl) (hBd.mono e5) ok) fun aM H6 hfM e6 hM => ?_
  obtain ⟨R, hRw⟩ : ∃ R, R = rowB (boardL s S.products) := ⟨_, rfl⟩
  rw [← hRw] at hM hne hsec hrl
  have hl0ne : l0 ≠ [] := fun z => by
    rw [z] at hl0
    rw [← hl0] at h2
    exact absurd h2 (by decide)
  refine q_asgX (ex_best (i := 0) (hix rfl (e5.trans e6)) (ev_var rfl) ev_c (hr0.mono (e5.trans e6)) hl0ne (sq_of hM) fun x hx => by rw [hrl, hbl]; have := hfit x hx; omega) fun v H7 e7 hv => ?_
  obtain ⟨t1, rfl, ht1⟩ := hv
  obtain ⟨f1, hf1⟩ : ∃ f1, f1 = bestS (brS R 0) l0 := ⟨_, rfl⟩
  rw [← hf1] at ht1 hne hsec
  have hf1m : f1 ∈ l0 := by
    rw [hf1]
    exact bestS_mem _ hl0ne
  have hrow160 : l0.length ≤ 2000 := ok.row 0 l0 hg
  refine q_asgX (X := fun Hp v Hq => ∃ p, v = .ref p ∧ RowAt K Hq p (l0.filter fun y => y != f1)) (fun H8 e8 Q' q => ?_) fun v H8 e8 hv => ?_
  · refine lc_keepR (fun y => !eqS y f1) (hix rfl ((e5.trans e6).trans (e7.trans e8))) (hr0.mono ((e5.trans e6).trans (e7.trans e8))) (by omega) (fun _ => rfl) (fun _ => rfl) (fun t x H9 e9 hx ht => et_test (ev_neStep (ev_var rfl) (ev_var rfl) ht (ex_t (e8.trans e9) ht1))) fun p H9 hp e9 h9 _ => q _ _ e9 ⟨p, rfl, ?_⟩
    have e : (l0.filter fun y => !eqS y f1) = l0.filter fun y => y != f1 := List.filter_congr fun y hy => by
      rw [eqS_is (hfit y hy).2.1 (hfit f1 hf1m).2.1]
      rfl
    rw [← e]
    exact h9
  · obtain ⟨aO, rfl, hO⟩ := hv
    obtain ⟨others, hoth⟩ : ∃ o, o = l0.filter fun y => y != f1 := ⟨_, rfl⟩
    rw [← hoth] at hO hne hsec
    have hom : ∀ y ∈ others, y ∈ l0 := fun y hy => by
      rw [hoth] at hy
      exact (List.mem_filter.mp hy).1
    have hM8 := (e7.trans e8) _ _ hM
    refine q_asgX (ex_best (i := 0) (ev_var rfl) (ev_var rfl) ev_c hO hne (sq_of hM8) fun x hx => by rw [hrl, hbl]; have := hfit x (hom x hx); omega) fun v H9 e9 hv => ?_
    obtain ⟨t2, rfl, ht2⟩ := hv
    obtain ⟨f2, hf2⟩ : ∃ f2, f2 = bestS (brS R 0) others := ⟨_, rfl⟩
    rw [← hf2] at ht2 hsec
    have hf2m : f2 ∈ l0 := hom _ (by rw [hf2]; exact bestS_mem _ hne)
    have hf2f := hfit f2 hf2m
    have hM9 := e9 _ _ hM8
    have hB9 : BoardAt K H9 aB (boardL s S.products) := hBd.mono (((e5.trans e6).trans (e7.trans e8)).trans e9)
    have ht2' := ht2
    rw [stepI_eq] at ht2'
    refine q_asgX (ex_cons (x := f2) (ev_var rfl) ht2 (ex_way (i := cellsS f2) (ev_var rfl) (ev_var rfl) (ev_ixT (ev_var rfl) ev_c ht2' rfl) hB9 ok (sq_of hM9) hrl (by omega))) fun v H10 e10 hv => ?_
    obtain ⟨aY, W, rfl, hfY, hWay, hWl, hRow⟩ := hv
    have hs2 := hsec W hWay
    have hbound := toldP_len (f2 :: W)
    rw [List.length_cons] at hbound
    refine k.ret (out := 0 :: ((brS R 0 f2 : Nat) : Int) :: toldP (piecesL (f2 :: W))) hA (el_cat (el_lst (ea_cons ev_c (ea_cons (ev_worthW (i := 0) (ev_var rfl) (ev_var rfl) ev_c (ex_t e10 ht2) (sq_of (e10 _ _ hM9)) (by rw [hrl, hbl]; omega)) ea_nil)) (by show 2 ≤ 100000; decide)) (el_call (ea_cons (ev_var rfl) ea_nil) fun H11 e11 Q' q _ => ⟨aY, f2 :: W, rfl, hRow.mono e11, by rw [List.length_cons]; omega, q⟩) (by rw [List.length_map]; show 2 + _ ≤ _; omega)) (st.trans ?_) rfl (e14.trans (((e5.trans e6).trans (e7.trans e8)).trans (e9.trans e10))) rfl
    show (S, match TimBuck.second s S.products with
      | none => TimBase.CANT
      | some x => Wrtibu.ways x.1 x.2) = _
    rw [hs2, ways_told]
theorem ok_tell_second (T : Txt K mg) : Good P w K mg base ("tell_second", none) 5 ["desk", "wholes", "row"] (sp_tell_second K) :=
  good_mk (d := d_tell_second) T 73 rfl rfl rfl sc_tell_second (fun vs H Q E h => len_tell_second h) (fun _ _ _ _ _ _ us hl => match us, hl with | [_, _, _], _ => rfl) (fun cdv A outer s H E hr => w_tell_second T cdv A outer s H E hr) (fun vs H Q E h => pure_tell_second T h)
end
end Sb
end
section
set_option maxHeartbeats 4000000
namespace Sb
open PySem PySem.Spec PySem.Calls PyProof.Rows L2 Evl
open TimBuck (Stem Product Piece diameterIn Log)
theorem getD_get {ns : List Int} {i : Nat} (h : i < ns.length) : ns[i]? = some (ns.getD i 0) := by
  rw [List.getD_eq_getElem?_getD, List.getElem?_eq_getElem h]
  rfl
/-- why a row does not hold at a place, as two numbers -/
def faultB (b : List (List TimBuck.Step)) (ns : List Int) (i : Nat) : List Int := if i + 1 = b.length then (if 0 ≤ ns.getD i 0 then [] else [-1, 0]) else if ns.getD i 0 < ns.getD (i + 1) 0 then [-1, 0] else match (b.getD i []).find? (fun x => decide (ns.getD i 0 < (worthS x : Int) + ns.getD (i + cellsS x) 0)) with
  | some x => [kS x, (longS x : Int)]
  | none => []
section
variable {K : PySem.W.Frag} {σ : L2.St} {H : Hp} {ta tb te : TE} {t : TT}
theorem el_if {xs : List V} {b : Bool} (h : EvT t σ H b) (h1 : b = true → EvL ta σ H xs) (h2 : b = false → EvL tb σ H xs) : EvL (tIf t ta tb) σ H xs := fun H1 e Q q => h H1 e _ fun H2 e2 => by
  cases b with
  | true => exact h1 rfl H2 (e.trans e2) _ fun p H3 hp e3 h3 => q p H3 (fresh_back e2 hp) (e2.trans e3) h3
  | false => exact h2 rfl H2 (e.trans e2) _ fun p H3 hp e3 h3 => q p H3 (fresh_back e2 hp) (e2.trans e3) h3
theorem q_enX {D : Ends} {tu tz : TS} {g : TG} {X : Hp → V → Hp → Prop} (h : EvX te σ H X) (k : ∀ v H1, Ex H H1 → X H v H1 → tSeq (tFor (iEnum K (tCons (tC v) tNil)) g tu) tz D σ H1) : tSeq (tFor (iEnum K (tCons te tNil)) g tu) tz D σ H := h H (Ex.refl H) _ fun v H1 e x => k v H1 e x
end
section
variable {P : Program} {w : World} {K : PySem.W.Frag} {mg : Str → Option Value} {base : Heap} {vs : List V} {H : Hp} {Q : VK} {E : XK}
def sp_fault_at (K : PySem.W.Frag) : Sp := fun vs H Q _ => ∃ (aB : Addr) (b : List (List TimBuck.Step)) (aN : Addr) (ns : List Int) (i : Nat), vs = [.ref aB, .ref aN, .int (i : Int)] ∧ BoardAt K H aB b ∧ BoardOk b ∧ SqL K H aN (ns.map V.int) ∧ ns.length = b.length ∧ i < b.length ∧ RetL ((faultB b ns i).map V.int) H Q
theorem len_fault_at (h : sp_fault_at K vs H Q E) : vs.length = 3 := by
  obtain ⟨a, b, c, d, e, rfl, _⟩ := h
  rfl
abbrev NL_fault_at : List Str := ["board", "numbers", "at", "cells", "k", "paid", "worth"]
theorem sc_fault_at : FnScope NL_fault_at ["board", "numbers", "at"] (defScope s_fault_at) := ⟨rfl, rfl, rfl, by decide +kernel, rfl, by decide +kernel, by decide +kernel⟩
def t_fault_at (K : PySem.W.Frag) : TS := (tSeq (tIfS (tTest (tOp rEq (tVar 2) (tOp (rI0 fun i j => .int (i - j)) (tCB (rLenS K) (tCons (tVar 0) tNil)) (tC (.int 1))))) (tRet (tIf (tTest (tOp (rI0 fun i j => .bl (decide (j ≤ i))) (tOp (rIxL K) (tVar 1) (tVar 2)) (tC (.int 0)))) (tLst tNil) (tLst (tCons (tUn (rU fun i => .int (-i)) (tC (.int 1))) (tCons (tC (.int 0)) tNil))))) tNext)
    (tSeq (tIfS (tTest (tOp (rI0 fun i j => .bl (decide (i < j))) (tOp (rIxL K) (tVar 1) (tVar 2)) (tOp (rIxL K) (tVar 1) (tOp (rI0 fun i j => .int (i + j)) (tVar 2) (tC (.int 1)))))) (tRet (tLst (tCons (tUn (rU fun i => .int (-i)) (tC (.int 1))) (tCons (tC (.int 0)) tNil)))) tNext)
    (tSeq (tFor (iList K (tOp (rIxL K) (tVar 0) (tVar 2))) (gTup K 4 (gCons (gName 3) (gCons (gName 4) (gCons (gName 5) (gCons (gName 6) gNil))))) (tIfS (tTest (tOp (rI0 fun i j => .bl (decide (i < j))) (tOp (rIxL K) (tVar 1) (tVar 2)) (tOp (rI0 fun i j => .int (i + j)) (tVar 6) (tOp (rIxL K) (tVar 1) (tOp (rI0 fun i j => .int (i + j)) (tVar 2) (tVar 3)))))) (tRet (tLst (tCons (tVar 4) (tCons (tVar 5) tNil)))) tNext))
    (tRet (tLst tNil)))))
theorem w_fault_at (T : Txt K mg) (cdv : Value) (A : Around) (outer : List Env) (s : Shared) (H : Hp) (E : XK) (hr : Room 0 (A.deeper (envOfC "fault_at" (defScope s_fault_at) s.heap.objs.size (He.fAd K ("fault_at", none)) cdv))) :
    PSs (cxOf CX0 P w K mg base NL_fault_at "fault_at" (defScope s_fault_at) (He.fAd K ("fault_at", none)) cdv A outer s H E).nox (defBody s_fault_at) (t_fault_at K) := by
  exact (pss_cons (ps_if (pt_cmpR op_eq (pv 2) (pe_op op_sub (pe_callB call_len_seq rfl (T.free 78 rfl) (by decide +kernel) (pa_cons (pv 0) pa_nil)) (by exact pe_int)) (nomark _)) (pss_one (ps_ret (pe_ifExp (pt_cmpR op_ge (pe_ix ix_list (pv 1) (pv 2) (fun _ _ => rfl)) (by exact pe_int) (nomark _)) (pe_lst pa_nil) (pe_lst (pa_cons (pe_un un_neg (by exact pe_int)) (pa_cons (by exact pe_int) pa_nil)))))) pss_nil)
    (pss_cons (ps_if (pt_cmpR op_lt (pe_ix ix_list (pv 1) (pv 2) (fun _ _ => rfl)) (pe_ix ix_list (pv 1) (pe_op op_add (pv 2) (by exact pe_int)) (fun _ _ => rfl)) (nomark _)) (pss_one (ps_ret (pe_lst (pa_cons (pe_un un_neg (by exact pe_int)) (pa_cons (by exact pe_int) pa_nil))))) pss_nil)
    (pss_cons (ps_for PassesOwn.never rfl (pi_list (pe_ix ix_list (pv 0) (pv 2) (fun _ _ => rfl))) (pg_tup rfl (pgs_cons (pg_name (i := 3) sc_fault_at.nd rfl (.inl rfl)) (pgs_cons (pg_name (i := 4) sc_fault_at.nd rfl (.inl rfl)) (pgs_cons (pg_name (i := 5) sc_fault_at.nd rfl (.inl rfl)) (pgs_cons (pg_name (i := 6) sc_fault_at.nd rfl (.inl rfl)) pgs_nil))))) (pss_one (ps_if (pt_cmpR op_lt (pe_ix ix_list (pv 1) (pv 2) (fun _ _ => rfl)) (pe_op op_add (pv 6) (pe_ix ix_list (pv 1) (pe_op op_add (pv 2) (pv 3)) (fun _ _ => rfl))) (nomark _)) (pss_one (ps_ret (pe_lst (pa_cons (pv 4) (pa_cons (pv 5) pa_nil))))) pss_nil)))
    (pss_one (ps_ret (pe_lst pa_nil))))))
theorem pure_fault_at (T : Txt K mg) (h : sp_fault_at K vs H Q E) : t_fault_at K { nx := fun _ H' => Q .non H', rt := Q } (start NL_fault_at vs) H := by
  obtain ⟨aB, b, aN, ns, i, rfl, hB, ok, hN, hl, hi, k⟩ := h
  have hz := getD_get (ns := ns) (i := i) (by omega)
  have ez : ∀ {σ : L2.St} {H' : Hp}, σ[1]? = some (some (.ref aN)) → σ[2]? = some (some (.int (i : Int))) → Ex H H' → Ev (tOp (rIxL K) (tVar 1) (tVar 2)) σ H' (.int (ns.getD i 0)) := fun h1 h2 e => ev_ixL (ev_var h1) (ev_var h2) (ex_l e hN) (at_int (n := i) rfl hz)
  have el2 : ∀ {σ : L2.St} {H' : Hp}, EvL (tLst (tCons (tUn (rU fun i => .int (-i)) (tC (.int 1))) (tCons (tC (.int 0)) tNil))) σ H' (([-1, 0] : List Int).map V.int) := el_lst (ea_cons (ev_neg ev_c) (ea_cons ev_c ea_nil)) (by show 2 ≤ 100000; decide)
  refine q_when (et_test (ev_eqi (ev_var rfl) (ev_sub (hB.lenE (ev_var rfl)) ev_c))) (fun hb H1 e1 => ?_) (fun hb H1 e1 => ?_)
  · have c : i + 1 = b.length := by
      have := eq_of_beq hb
      omega
    have hf : faultB b ns i = if 0 ≤ ns.getD i 0 then [] else [-1, 0] := if_pos c
    refine s_retL (xs := (faultB b ns i).map V.int) (el_if (et_test (ev_ge (ez rfl rfl e1) ev_c)) (fun hb => ?_) (fun hb => ?_)) fun p H2 hp e2 h2 => k p H2 (fresh_back e1 hp) (e1.trans e2) h2
    · rw [hf, if_pos (of_decide_eq_true hb)]
      exact el_nil
    · rw [hf, if_neg (of_decide_eq_false hb)]
      exact el2
  have c : ¬ i + 1 = b.length := fun z => by
    rw [show ((i : Int) == (b.length : Int) - 1) = true from by rw [beq_iff_eq]; omega] at hb
    cases hb
  have hf : faultB b ns i = if ns.getD i 0 < ns.getD (i + 1) 0 then [-1, 0] else match (b.getD i []).find? (fun x => decide (ns.getD i 0 < (worthS x : Int) + ns.getD (i + cellsS x) 0)) with
    | some x => [kS x, (longS x : Int)]
    | none => [] := if_neg c
  have hz1 := getD_get (ns := ns) (i := i + 1) (by omega)
  refine q_when (et_test (ev_lt (ez rfl rfl e1) (ev_ixL (ev_var rfl) (ev_add (ev_var rfl) ev_c) (ex_l e1 hN) (at_int (n := i + 1) (by omega) hz1)))) (fun hb H2 e2 => ?_) (fun hb H2 e2 => ?_)
  · rw [if_pos (of_decide_eq_true hb)] at hf
    rw [hf] at k
    exact s_retL el2 fun p H3 hp e3 h3 => k p H3 (fresh_back (e1.trans e2) hp) ((e1.trans e2).trans e3) h3
  rw [if_neg (of_decide_eq_false hb)] at hf
  have hg : b[i]? = some b[i] := List.getElem?_eq_getElem hi
  have hgd : b.getD i [] = b[i] := by
    rw [List.getD_eq_getElem?_getD, hg]
    rfl
  rw [hgd] at hf
  obtain ⟨r, hr, hix⟩ := ((hB.mono e1).mono e2).ix (σ := [some (.ref aB), some (.ref aN), some (.int (i : Int)), none, none, none, none]) (ta := tVar 0) (tb := tVar 2) hg
  obtain ⟨g, hgg⟩ : ∃ g : TimBuck.Step → Bool, g = fun x => decide (ns.getD i 0 < (worthS x : Int) + ns.getD (i + cellsS x) 0) := ⟨_, rfl⟩
  rw [← hgg] at hf
  refine q_forRow (H0 := H2) (hix (Ex.refl _) (ev_var rfl) (ev_var rfl)) hr (fun j σ' H' => ∃ (u v w x : Option V), σ' = [some (.ref aB), some (.ref aN), some (.int (i : Int)), u, v, w, x] ∧ Ex H2 H' ∧ (b[i].take j).find? g = none) (fun H3 e3 => ⟨none, none, none, none, rfl, e3, rfl⟩) (fun j σ' H' ⟨_, _, _, _, _, e, _⟩ => e) ?_ ?_
  · rintro j s σ' H' hs ⟨u, v, w', x, rfl, e, hn⟩
    have hsm := List.mem_of_getElem? hs
    obtain ⟨f1, f2⟩ := ok.fit i _ hg s hsm
    refine ⟨_, _, rfl, _, _, rfl, _, _, rfl, _, _, rfl, rfl, ?_⟩
    have e' := (e1.trans e2).trans e
    have hz2 := getD_get (ns := ns) (i := i + cellsS s) (by omega)
    show tIfS _ _ _ _ [some (.ref aB), some (.ref aN), some (.int (i : Int)), some (.int (cellsS s : Int)), some (.int (kS s)), some (.int (longS s : Int)), some (.int (worthS s : Int))] H'
    refine s_when (et_test (ev_lt (ez rfl rfl e') (ev_add (ev_var rfl) (ev_ixL (ev_var rfl) (ev_add (ev_var rfl) (ev_var rfl)) (ex_l e' hN) (at_int (n := i + cellsS s) (by omega) hz2))))) (fun hb H3 e3 => ?_) (fun hb H3 e3 => ⟨_, _, _, _, rfl, e.trans e3, ?_⟩)
    · have hgs : g s = true := by
        rw [hgg]
        exact hb
      have hfind : b[i].find? g = some s := by
        have e0 : b[i] = b[i].take j ++ s :: b[i].drop (j + 1) := by
          have := List.take_append_drop j b[i]
          rw [List.drop_eq_getElem_cons (List.getElem?_eq_some_iff.mp hs).1, (List.getElem?_eq_some_iff.mp hs).2] at this
          exact this.symm
        rw [e0, List.find?_append, hn, Option.none_or, List.find?_cons_of_pos hgs]
      rw [hfind] at hf
      rw [hf] at k
      exact s_retL (el_lst (ea_cons (ev_var rfl) (ea_cons (ev_var rfl) ea_nil)) (by show 2 ≤ 100000; decide)) fun p H4 hp e4 h4 => k p H4 (fresh_back (e'.trans e3) hp) ((e'.trans e3).trans e4) h4
    · have hgs : g s = false := by
        rw [hgg]
        exact hb
      rw [get_take hs, List.find?_append, hn, Option.none_or, List.find?_cons_of_neg (by rw [hgs]; decide)]
      rfl
  · rintro σ' H' ⟨u, v, w', x, rfl, e, hn⟩
    rw [List.take_length] at hn
    rw [hn] at hf
    rw [hf] at k
    have e' := (e1.trans e2).trans e
    exact s_retL el_nil fun p H4 hp e4 h4 => k p H4 (fresh_back e' hp) (e'.trans e4) h4
theorem ok_fault_at (T : Txt K mg) : Good P w K mg base ("fault_at", none) 1 ["board", "numbers", "at"] (sp_fault_at K) :=
  good_mk (d := d_fault_at) T 75 rfl rfl rfl sc_fault_at (fun vs H Q E h => len_fault_at h) (fun _ _ _ _ _ _ us hl => match us, hl with | [_, _, _], _ => rfl) (fun cdv A outer s H E hr => w_fault_at T cdv A outer s H E hr) (fun vs H Q E h => pure_fault_at T h)
/-! ## the law -/
def faultL : Option (Option Log) → List Int
  | none => []
  | some none => [-1, 0]
  | some (some x) => [(x.product : Int), (x.long : Int)]
theorem fault_law {s : Stem} {ps : TimBuck.Products} (c : Ctx s ps) {ns : List Int} (hl : ns.length = tens s + 1) {i : Nat} (hi : i ≤ tens s) : faultB (boardL s ps) ns i = faultL (TimBuck.failsAt s ps (s.foot + 10 * i) (ns.getD i 0) (ns.drop (i + 1))) := by
  have n := c.nums
  have hbl : (boardL s ps).length = tens s + 1 := boardL_len
  unfold faultB
  by_cases h : i = tens s
  · rw [if_pos (by omega), List.drop_eq_nil_of_le (by omega)]
    show _ = faultL (if ns.getD i 0 < 0 then some none else none)
    by_cases z : 0 ≤ ns.getD i 0
    · rw [if_pos z, if_neg (by omega)]
      rfl
    · rw [if_neg z, if_pos (by omega)]
      rfl
  · rw [if_neg (by omega)]
    have hd : ns.drop (i + 1) = ns.getD (i + 1) 0 :: ns.drop (i + 2) := by
      rw [List.drop_eq_getElem_cons (by omega)]
      congr 1
      rw [List.getD_eq_getElem?_getD, List.getElem?_eq_getElem (by omega)]
      rfl
    have hfa : TimBuck.failsAt s ps (s.foot + 10 * i) (ns.getD i 0) (ns.drop (i + 1)) = if ns.getD i 0 < ns.getD (i + 1) 0 then some none else ((TimBuck.logsAt s ps (s.foot + 10 * i)).find? fun x => decide (ns.getD i 0 < (x.worth : Int) + (ns.drop (i + 1)).getD (x.takes / 10 - 1) 0)).map some := by
      rw [hd]
      rfl
    rw [hfa]
    by_cases z : ns.getD i 0 < ns.getD (i + 1) 0
    · rw [if_pos z, if_pos z]
      rfl
    · rw [if_neg z, if_neg z]
      have hg : (boardL s ps).getD i [] = (TimBuck.logsAt s ps (s.foot + 10 * i)).map TimBuck.Step.log ++ [.waste] := by
        rw [List.getD_eq_getElem?_getD, boardL_get hi]
        show stepsAt s ps (s.foot + 10 * i) = _
        unfold stepsAt
        rw [if_pos (by omega)]
      rw [hg, List.find?_append, List.find?_map]
      have hw : ([TimBuck.Step.waste] : List TimBuck.Step).find? (fun x => decide (ns.getD i 0 < (worthS x : Int) + ns.getD (i + cellsS x) 0)) = none := by
        rw [List.find?_cons_of_neg]
        · rfl
        · rw [decide_eq_true_eq]
          show ¬ ns.getD i 0 < ((0 : Nat) : Int) + ns.getD (i + 10 / 10) 0
          have : ¬ ns.getD i 0 < ns.getD (i + 1) 0 := z
          show ¬ ns.getD i 0 < ((0 : Nat) : Int) + ns.getD (i + 1) 0
          omega
      rw [hw, Option.or_none]
      have hc : (TimBuck.logsAt s ps (s.foot + 10 * i)).find? ((fun x => decide (ns.getD i 0 < (worthS x : Int) + ns.getD (i + cellsS x) 0)) ∘ TimBuck.Step.log) = (TimBuck.logsAt s ps (s.foot + 10 * i)).find? fun x => decide (ns.getD i 0 < (x.worth : Int) + (ns.drop (i + 1)).getD (x.takes / 10 - 1) 0) := by
        have : ∀ l : List Log, (∀ x ∈ l, 10 ≤ x.takes) → l.find? ((fun x => decide (ns.getD i 0 < (worthS x : Int) + ns.getD (i + cellsS x) 0)) ∘ TimBuck.Step.log) = l.find? fun x => decide (ns.getD i 0 < (x.worth : Int) + (ns.drop (i + 1)).getD (x.takes / 10 - 1) 0) := by
          intro l
          induction l with
          | nil => intro _; rfl
          | cons x l ih =>
            intro h
            have hx := h x (List.mem_cons_self ..)
            have e : ((fun x => decide (ns.getD i 0 < (worthS x : Int) + ns.getD (i + cellsS x) 0)) ∘ TimBuck.Step.log) x = decide (ns.getD i 0 < (x.worth : Int) + (ns.drop (i + 1)).getD (x.takes / 10 - 1) 0) := by
              show decide (ns.getD i 0 < (x.worth : Int) + ns.getD (i + x.takes / 10) 0) = _
              rw [List.getD_eq_getElem?_getD (l := ns.drop (i + 1)), List.getElem?_drop, ← List.getD_eq_getElem?_getD, show i + 1 + (x.takes / 10 - 1) = i + x.takes / 10 by omega]
            rw [List.find?_cons, List.find?_cons, e, ih fun y hy => h y (List.mem_cons_of_mem _ hy)]
        refine this _ fun x hx => ?_
        obtain ⟨p, _, _, _, h1, _, h3, _⟩ := log_fact c hx
        omega
      rw [hc]
      cases (TimBuck.logsAt s ps (s.foot + 10 * i)).find? fun x => decide (ns.getD i 0 < (x.worth : Int) + (ns.drop (i + 1)).getD (x.takes / 10 - 1) 0) <;> rfl
def failI (s : Stem) (ps : TimBuck.Products) (ns : List Int) (i : Nat) : Option (Option Log) := TimBuck.failsAt s ps (s.foot + 10 * i) (ns.getD i 0) (ns.drop (i + 1))
theorem fails_to {s : Stem} {ps : TimBuck.Products} {ns : List Int} : ∀ {i : Nat}, i ≤ ns.length → (∀ j < i, failI s ps ns j = none) → TimBuck.failsFrom s ps s.foot ns = TimBuck.failsFrom s ps (s.foot + 10 * i) (ns.drop i)
  | 0, _, _ => rfl
  | i + 1, h, g => by
    rw [fails_to (i := i) (by omega) fun j hj => g j (by omega)]
    have hd : ns.drop i = ns.getD i 0 :: ns.drop (i + 1) := by
      rw [List.drop_eq_getElem_cons (by omega)]
      congr 1
      rw [List.getD_eq_getElem?_getD, List.getElem?_eq_getElem (by omega)]
      rfl
    rw [hd]
    show (match failI s ps ns i with
      | some x => some (s.foot + 10 * i, x)
      | none => TimBuck.failsFrom s ps (s.foot + 10 * i + 10) (ns.drop (i + 1))) = _
    rw [g i (by omega)]
    rfl
theorem fails_at {s : Stem} {ps : TimBuck.Products} {ns : List Int} {i : Nat} {x : Option Log} (h : i < ns.length) (g : ∀ j < i, failI s ps ns j = none) (hx : failI s ps ns i = some x) : TimBuck.failsFrom s ps s.foot ns = some (s.foot + 10 * i, x) := by
  rw [fails_to (by omega) g]
  have hd : ns.drop i = ns.getD i 0 :: ns.drop (i + 1) := by
    rw [List.drop_eq_getElem_cons (by omega)]
    congr 1
    rw [List.getD_eq_getElem?_getD, List.getElem?_eq_getElem (by omega)]
    rfl
  rw [hd]
  show (match failI s ps ns i with
    | some x => some (s.foot + 10 * i, x)
    | none => TimBuck.failsFrom s ps (s.foot + 10 * i + 10) (ns.drop (i + 1))) = _
  rw [hx]
/-! ## call 16 -/
abbrev sp_tell_check (K : PySem.W.Frag) : Sp := spDeed K 0 fun _ rs => .check rs
theorem len_tell_check (h : sp_tell_check K vs H Q E) : vs.length = 3 := spDeed_len h
abbrev NL_tell_check : List Str := ["desk", "wholes", "row", "board", "at", "fault"]
theorem sc_tell_check : FnScope NL_tell_check ["desk", "wholes", "row"] (defScope s_tell_check) := ⟨rfl, rfl, rfl, by decide +kernel, rfl, by decide +kernel, by decide +kernel⟩
def t_tell_check (K : PySem.W.Frag) : TS := (tSeq (tIfS (tNot (tB (tCall (sp_are_numbers K) [] E0 (tCons (tVar 2) tNil)))) (tRet (tLst (tCons (tC (.int (-1))) tNil))) tNext)
    (tSeq (tIfS (tTest (tOp rIsN (tFld K (tVar 0) "stem") (tC .non))) (tRet (tLst (tCons (tC (.int (-3))) tNil))) tNext)
    (tSeq (tAsg (tCall (sp_board_of K) [] E0 (tCons (tFld K (tVar 0) "stem") (tCons (tFld K (tVar 0) "products") tNil))) (gName 3))
    (tSeq (tIfS (tTest (tOp rNe (tCB (rLenS K) (tCons (tVar 2) tNil)) (tCB (rLenS K) (tCons (tVar 3) tNil)))) (tRet (tLst (tCons (tC (.int (-4))) tNil))) tNext)
    (tSeq (tFor (iRng1 (tCons (tCB (rLenS K) (tCons (tVar 3) tNil)) tNil)) (gName 4) (tSeq (tAsg (tCall (sp_fault_at K) [] E0 (tCons (tVar 3) (tCons (tVar 2) (tCons (tVar 4) tNil)))) (gName 5))
    (tIfS (tTest (tOp (rI0 fun i j => .bl (decide (j < i))) (tCB (rLenS K) (tCons (tVar 5) tNil)) (tC (.int 0)))) (tRet (tOp rCat (tLst (tCons (tC (.int 0)) (tCons (tC (.int 0)) (tCons (tOp (rI0 fun i j => .int (i + j)) (tMeth (He.ga K "Stem") "foot" (sp_Stem_foot K) [] E0 (tFld K (tVar 0) "stem") tNil) (tOp (rI CMul fun i j => .int (i * j)) (tC (.int 10)) (tVar 4))) tNil)))) (tVar 5))) tNext)))
    (tRet (tLst (tCons (tC (.int 0)) (tCons (tC (.int 1)) (tCons (tOp (rIxL K) (tVar 2) (tC (.int 0))) tNil))))))))))
theorem w_tell_check (T : Txt K mg) (cdv : Value) (A : Around) (outer : List Env) (s : Shared) (H : Hp) (E : XK) (hr : Room 4 (A.deeper (envOfC "tell_check" (defScope s_tell_check) s.heap.objs.size (He.fAd K ("tell_check", none)) cdv))) :
    PSs (cxOf CX0 P w K mg base NL_tell_check "tell_check" (defScope s_tell_check) (He.fAd K ("tell_check", none)) cdv A outer s H E).nox (defBody s_tell_check) (t_tell_check K) := by
  exact (pss_cons (ps_if (pt_not (pt_val (pe_callG (ok_are_numbers T) (hr.mono (by decide)) rfl (T.glo 16 rfl) (pa_cons (pv 2) pa_nil)))) (pss_one (ps_ret (pe_lst (pa_cons (pe_gi rfl (T.int 87 rfl)) pa_nil)))) pss_nil)
    (pss_cons (ps_if (pt_cmpR op_isN (pe_fld (pv 0) rfl) (by exact pe_non) (nomark _)) (pss_one (ps_ret (pe_lst (pa_cons (pe_gi rfl (T.int 88 rfl)) pa_nil)))) pss_nil)
    (pss_cons (ps_set (i := 3) sc_tell_check.nd rfl (.inl rfl) (pe_callG (ok_board_of T) (hr.mono (by decide)) rfl (T.glo 41 rfl) (pa_cons (pe_fld (pv 0) rfl) (pa_cons (pe_fld (pv 0) rfl) pa_nil))))
    (pss_cons (ps_if (pt_cmpR op_ne (pe_callB call_len_seq rfl (T.free 78 rfl) (by decide +kernel) (pa_cons (pv 2) pa_nil)) (pe_callB call_len_seq rfl (T.free 78 rfl) (by decide +kernel) (pa_cons (pv 3) pa_nil)) (nomark _)) (pss_one (ps_ret (pe_lst (pa_cons (pe_gi rfl (T.int 89 rfl)) pa_nil)))) pss_nil)
    (pss_cons (ps_for PassesOwn.never rfl (pi_range1 rfl (T.free 79 rfl) (pa_cons (pe_callB call_len_seq rfl (T.free 78 rfl) (by decide +kernel) (pa_cons (pv 3) pa_nil)) pa_nil)) (pg_name (i := 4) sc_tell_check.nd rfl (.inl rfl)) (pss_cons (ps_set (i := 5) sc_tell_check.nd rfl (.inl rfl) (pe_callG (ok_fault_at T) (hr.mono (by decide)) rfl (T.glo 57 rfl) (pa_cons (pv 3) (pa_cons (pv 2) (pa_cons (pv 4) pa_nil)))))
    (pss_one (ps_if (pt_cmpR op_gt (pe_callB call_len_seq rfl (T.free 78 rfl) (by decide +kernel) (pa_cons (pv 5) pa_nil)) (by exact pe_int) (nomark _)) (pss_one (ps_ret (pe_op op_cat (pe_lst (pa_cons (by exact pe_int) (pa_cons (by exact pe_int) (pa_cons (pe_op op_add (pe_methG0 (pe_fld (pv 0) rfl) (T.cls 101 rfl) (T.meth 110 rfl) (ok_Stem_foot T) (hr.mono (by decide))) (pe_op op_mul (by exact pe_int) (pv 4))) pa_nil)))) (pv 5)))) pss_nil))))
    (pss_one (ps_ret (pe_lst (pa_cons (by exact pe_int) (pa_cons (by exact pe_int) (pa_cons (pe_ix ix_list (pv 2) (by exact pe_int) (fun _ _ => rfl)) pa_nil)))))))))))
theorem pure_tell_check (T : Txt K mg) (h : sp_tell_check K vs H Q E) : t_tell_check K { nx := fun _ H' => Q .non H', rt := Q } (start NL_tell_check vs) H := by
  obtain ⟨A, S, aW, ws, aR, rs, rfl, hA, hW, hR, hn, hr, k⟩ := h
  have st : Wrtibu.step S (.check rs) = (S, if Wrtibu.mayRow rs = false then TimBase.RANGE else (match S.stem with
    | none => TimBase.NONE
    | some s => if rs.length ≠ (s.top - s.foot) / 10 + 1 then TimBase.CANT else match TimBuck.failsFrom s S.products s.foot rs with
      | none => [0, 1, rs.headD 0]
      | some (a, none) => [0, 0, (a : Int), -1, 0]
      | some (a, some x) => [0, 0, (a : Int), (x.product : Int), (x.long : Int)])) := rfl
  rw [numbers_law] at st
  refine q_when (et_not (et_B (ev_L1 (ev_var rfl) hR hr trivial))) (fun hb H2 e2 => k.ret1 hA ?_ e2 rfl) (fun hb H2 e1 => ?_)
  · rw [if_pos (not_t hb)] at st
    exact st
  rw [if_neg (by rw [not_f hb]; decide)] at st
  refine q_when (et_test (ev_noStem T (ev_var rfl) (hA.mono e1))) (fun hb H3 e3 => k.ret1 hA ?_ (e1.trans e3) rfl) (fun hb H3 e3 => ?_)
  · rw [Option.isNone_iff_eq_none.mp hb] at st
    exact st
  replace e1 := e1.trans e3
  obtain ⟨s, hS⟩ := stem_is hb
  obtain ⟨B, hB, hs⟩ := hA.st_some hS
  rw [hS] at st
  have c := hA.ctx hs
  have n := c.nums
  have ok := boardL_ok c
  have hbl : (boardL s S.products).length = tens s + 1 := boardL_len
  refine q_asgX (ex_board T (ev_var rfl) (hA.mono e1) hB (hs.mono e1)) fun v H4 e4 hv => ?_
  obtain ⟨aB, rfl, hfB, hBd⟩ := hv
  replace e1 := e1.trans e4
  refine q_when (et_test (ev_nei (ev_lenI (ev_var rfl) (ex_l e1 hR)) (hBd.lenE (ev_var rfl)))) (fun hb H5 e5 => k.ret1 hA (st.trans ?_) (e1.trans e5) rfl) (fun hb H5 e5 => ?_)
  · have hne : rs.length ≠ (s.top - s.foot) / 10 + 1 := fun z => by
      have e : ((rs.length : Int) == ((boardL s S.products).length : Int)) = true := by
        rw [beq_iff_eq, hbl]
        unfold tens
        omega
      rw [e] at hb
      cases hb
    show (S, if rs.length ≠ (s.top - s.foot) / 10 + 1 then _ else _) = _
    rw [if_pos hne]
    rfl
  have hlen : rs.length = tens s + 1 := by
    have := eq_of_beq (not_f hb)
    omega
  have hlen2 : ¬ rs.length ≠ (s.top - s.foot) / 10 + 1 := by
    unfold tens at hlen
    omega
  have st2 : Wrtibu.step S (.check rs) = (S, match TimBuck.failsFrom s S.products s.foot rs with
      | none => [0, 1, rs.headD 0]
      | some (a, none) => [0, 0, (a : Int), -1, 0]
      | some (a, some x) => [0, 0, (a : Int), (x.product : Int), (x.long : Int)]) := by
    refine st.trans ?_
    show (S, if rs.length ≠ (s.top - s.foot) / 10 + 1 then _ else _) = _
    rw [if_neg hlen2]
  replace e1 := e1.trans e5
  have hBd5 := hBd.mono e5
  refine q_forR1 (n := ((boardL s S.products).length : Int)) (ea_cons (hBd5.lenE (ev_var rfl)) ea_nil) (by omega) (fun i σ' H' => ∃ (u v : Option V), σ' = [some (.ref A.d), some (.ref aW), some (.ref aR), some (.ref aB), u, v] ∧ Ex H5 H' ∧ ∀ j < i, failI s S.products rs j = none) (fun H6 e6 => ⟨none, none, rfl, e6, fun j hj => absurd hj (Nat.not_lt_zero _)⟩) ?_ ?_
  · rintro i σ' H' hi ⟨u, v, rfl, e, hg⟩
    show tSeq _ _ _ [some (.ref A.d), some (.ref aW), some (.ref aR), some (.ref aB), some (.int (i : Int)), v] H'
    have e' := e1.trans e
    have hflaw := fault_law c hlen (i := i) (by omega)
    refine q_asgL (el_call (ea_cons (ev_var rfl) (ea_cons (ev_var rfl) (ea_cons (ev_var rfl) ea_nil))) fun H6 e6 Q' q _ => ⟨aB, boardL s S.products, aR, rs, i, rfl, hBd5.mono (e.trans e6), ok, ex_l (e'.trans e6) hR, by omega, by omega, q⟩) fun aF H6 hF e6 h6 => ?_
    rw [hflaw] at h6
    show tIfS _ _ _ _ [some (.ref A.d), some (.ref aW), some (.ref aR), some (.ref aB), some (.int (i : Int)), some (.ref aF)] H6
    cases hfi : failI s S.products rs i with
    | none =>
      have h6' : H6 aF = some (.lst []) := by
        rw [h6]
        show some (HO.lst ((faultL (failI s S.products rs i)).map V.int)) = _
        rw [hfi]
        rfl
      refine s_when (b := false) (et_is (et_test (ev_gt (ev_len (ev_var rfl) (sq_of h6')) ev_c)) rfl) (fun hb => by cases hb) (fun hb H7 e7 => ⟨_, _, rfl, (e.trans e6).trans e7, fun j hj => ?_⟩)
      rcases Nat.lt_succ_iff_lt_or_eq.mp hj with z | z
      · exact hg j z
      · rw [z]
        exact hfi
    | some x =>
      have hfa := fails_at (by omega) hg hfi
      have h6' : H6 aF = some (.lst ((faultL (some x)).map V.int)) := by
        rw [h6]
        show some (HO.lst ((faultL (failI s S.products rs i)).map V.int)) = _
        rw [hfi]
      have h2l : (faultL (some x)).length = 2 := by cases x <;> rfl
      refine s_when (b := true) (et_is (et_test (ev_gt (ev_len (ev_var rfl) (sq_of h6')) ev_c)) (by rw [List.length_map, h2l]; rfl)) (fun hb H7 e7 => ?_) (fun hb => by cases hb)
      refine k.ret (out := [0, 0, ((s.foot + 10 * i : Nat) : Int)] ++ faultL (some x)) hA (el_catV (el_lst (ea_cons ev_c (ea_cons ev_c (ea_cons (ev_int (ev_add (ev_S0 (evD_st T (ev_var rfl) (hA.mono ((e'.trans e6).trans e7)) hB) (hs.mono ((e'.trans e6).trans e7)) (stF_no (by decide +kernel))) (ev_mul ev_c (ev_var rfl) (.inl (by decide)))) (show (s.foot : Int) + 10 * (i : Int) = ((s.foot + 10 * i : Nat) : Int) by omega)) ea_nil))) (by show 3 ≤ 100000; decide)) (ev_var rfl) (e7 _ _ h6') (by rw [List.length_map, h2l]; show 3 + 2 ≤ 100000; decide)) (st2.trans ?_) ?_ ((e'.trans e6).trans e7) rfl
      · rw [hfa]
        cases x <;> rfl
      · rw [List.map_append]
        rfl
  · rintro σ' H' ⟨u, v, rfl, e, hg⟩
    have e0 : (((boardL s S.products).length : Int)).toNat = rs.length := by
      rw [hbl, hlen]
      rfl
    rw [e0] at hg
    have hnone : TimBuck.failsFrom s S.products s.foot rs = none := by
      rw [fails_to (Nat.le_refl _) hg, List.drop_length]
      rfl
    have h0 : rs[0]? = some (rs.headD 0) := by
      cases rs with
      | nil => cases hlen
      | cons a r => rfl
    refine k.ret (out := [0, 1, rs.headD 0]) hA (el_lst (ea_cons ev_c (ea_cons ev_c (ea_cons (ev_ixL (ev_var rfl) ev_c (ex_l (e1.trans e) hR) (at_int (n := 0) rfl h0)) ea_nil))) (by show 3 ≤ 100000; decide)) (st2.trans ?_) rfl (e1.trans e) rfl
    rw [hnone]
theorem ok_tell_check (T : Txt K mg) : Good P w K mg base ("tell_check", none) 5 ["desk", "wholes", "row"] (sp_tell_check K) :=
  good_mk (d := d_tell_check) T 76 rfl rfl rfl sc_tell_check (fun vs H Q E h => len_tell_check h) (fun _ _ _ _ _ _ us hl => match us, hl with | [_, _, _], _ => rfl) (fun cdv A outer s H E hr => w_tell_check T cdv A outer s H E hr) (fun vs H Q E h => pure_tell_check T h)
end
end Sb
end
section
set_option maxHeartbeats 4000000
namespace Sb
open PySem PySem.Spec PySem.Calls PyProof.Rows L2 Evl
open TimBuck (Stem Product Piece diameterIn Log)
def pfault (s : Stem) (ps : TimBuck.Products) (k : Int) (l h : Nat) : Nat := if k < 0 then (if s.top < h + l then 2 else 0) else match (ps[k.toNat]?).join with
  | none => 8
  | some p => TimBuck.against s p h l
theorem judge_cons (s : Stem) (ps : TimBuck.Products) (i a : Nat) (k : Int) (l : Nat) (r : List (Int × Nat)) : TimBuck.judgeFrom s ps i a ((k, l) :: r) = if k < 0 then (if s.top < a + l then .error (i, 2) else TimBuck.judgeFrom s ps (i + 1) (a + l) r) else match (ps[k.toNat]?).join with
    | none => .error (i, 8)
    | some p => if TimBuck.against s p a l ≠ 0 then .error (i, TimBuck.against s p a l) else (TimBuck.judgeFrom s ps (i + 1) (a + l + p.over) r).map fun (x : Nat × Nat) => (TimBuck.worth s p a l + x.1, x.2) := rfl
def addT (t : Nat) (e : Except (Nat × Nat) (Nat × Nat)) : Except (Nat × Nat) (Nat × Nat) := e.map fun x => (t + x.1, x.2)
theorem addT_zero (e : Except (Nat × Nat) (Nat × Nat)) : addT 0 e = e := by
  cases e with
  | error x => rfl
  | ok x =>
    show Except.ok (0 + x.1, x.2) = _
    rw [Nat.zero_add]
theorem addT_add (t u : Nat) (e : Except (Nat × Nat) (Nat × Nat)) : addT t (addT u e) = addT (t + u) e := by
  cases e with
  | error x => rfl
  | ok x =>
    show Except.ok (t + (u + x.1), x.2) = Except.ok (t + u + x.1, x.2)
    rw [Nat.add_assoc]
theorem judge_bad {s : Stem} {ps : TimBuck.Products} {i a : Nat} {k : Int} {l : Nat} {r : List (Int × Nat)} (h : pfault s ps k l a ≠ 0) : TimBuck.judgeFrom s ps i a ((k, l) :: r) = .error (i, pfault s ps k l a) := by
  rw [judge_cons]
  unfold pfault at h ⊢
  by_cases c : k < 0
  · rw [if_pos c] at h ⊢
    rw [if_pos c]
    by_cases d : s.top < a + l
    · rw [if_pos d, if_pos d]
    · rw [if_neg d] at h
      exact absurd rfl h
  · rw [if_neg c] at h ⊢
    rw [if_neg c]
    cases hz : (ps[k.toNat]?).join with
    | none => rfl
    | some p =>
      rw [hz] at h
      show (if TimBuck.against s p a l ≠ 0 then _ else _) = _
      rw [if_pos h]
theorem judge_waste {s : Stem} {ps : TimBuck.Products} {i a : Nat} {k : Int} {l : Nat} {r : List (Int × Nat)} (c : k < 0) (h : pfault s ps k l a = 0) : TimBuck.judgeFrom s ps i a ((k, l) :: r) = TimBuck.judgeFrom s ps (i + 1) (a + l) r := by
  rw [judge_cons, if_pos c]
  unfold pfault at h
  rw [if_pos c] at h
  split at h
  · cases h
  · rename_i d
    rw [if_neg d]
theorem judge_log {s : Stem} {ps : TimBuck.Products} {i a k : Nat} {l : Nat} {r : List (Int × Nat)} {p : Product} (hp : ps[k]? = some (some p)) (h : TimBuck.against s p a l = 0) : TimBuck.judgeFrom s ps i a (((k : Int), l) :: r) = addT (TimBuck.worth s p a l) (TimBuck.judgeFrom s ps (i + 1) (a + l + p.over) r) := by
  rw [judge_cons, if_neg (by omega), Int.toNat_natCast, some_join hp]
  show (if TimBuck.against s p a l ≠ 0 then _ else _) = _
  rw [if_neg (by omega)]
  rfl
section
variable {P : Program} {w : World} {K : PySem.W.Frag} {mg : Str → Option Value} {base : Heap} {vs : List V} {H : Hp} {Q : VK} {E : XK}
def sp_piece_fault (K : PySem.W.Frag) : Sp := fun vs H Q _ => ∃ (A : DkA) (S : Wrtibu.State) (s : Stem) (k : Int) (l h : Nat), vs = [.ref A.d, .int k, .int (l : Int), .int (h : Int)] ∧ DeskAt K H A S ∧ S.stem = some s ∧ (-1 ≤ k ∧ k ≤ 7) ∧ (h % 10 = 0 ∧ l % 10 = 0 ∧ 10 ≤ l) ∧ ∀ H', Ex H H' → Q (.int ((pfault s S.products k l h : Nat) : Int)) H'
theorem len_piece_fault (h : sp_piece_fault K vs H Q E) : vs.length = 4 := by
  obtain ⟨a, b, c, d, e, f, rfl, _⟩ := h
  rfl
abbrev NL_piece_fault : List Str := ["desk", "k", "length", "height"]
theorem sc_piece_fault : FnScope NL_piece_fault ["desk", "k", "length", "height"] (defScope s_piece_fault) := ⟨rfl, rfl, rfl, by decide +kernel, rfl, by decide +kernel, by decide +kernel⟩
def t_piece_fault (K : PySem.W.Frag) : TS := (tSeq (tIfS (tTest (tOp rEq (tVar 1) (tUn (rU fun i => .int (-i)) (tC (.int 1))))) (tRet (tIf (tTest (tOp (rI0 fun i j => .bl (decide (j < i))) (tOp (rI0 fun i j => .int (i + j)) (tVar 3) (tVar 2)) (tFld K (tFld K (tVar 0) "stem") "top"))) (tC (.int (2))) (tC (.int 0)))) tNext)
    (tSeq (tIfS (tB (tMeth (He.ga K "Desk") "has_no_product" (sp_Desk_has_no_product K) [] E0 (tVar 0) (tCons (tVar 1) tNil))) (tRet (tC (.int (8)))) tNext)
    (tRet (tCall (sp_against K) [] E0 (tCons (tFld K (tVar 0) "stem") (tCons (tOp (rIxL K) (tFld K (tVar 0) "products") (tVar 1)) (tCons (tVar 3) (tCons (tVar 2) tNil))))))))
theorem w_piece_fault (T : Txt K mg) (cdv : Value) (A : Around) (outer : List Env) (s : Shared) (H : Hp) (E : XK) (hr : Room 2 (A.deeper (envOfC "piece_fault" (defScope s_piece_fault) s.heap.objs.size (He.fAd K ("piece_fault", none)) cdv))) :
    PSs (cxOf CX0 P w K mg base NL_piece_fault "piece_fault" (defScope s_piece_fault) (He.fAd K ("piece_fault", none)) cdv A outer s H E).nox (defBody s_piece_fault) (t_piece_fault K) := by
  exact (pss_cons (ps_if (pt_cmpR op_eq (pv 1) (pe_un un_neg (by exact pe_int)) (nomark _)) (pss_one (ps_ret (pe_ifExp (pt_cmpR op_gt (pe_op op_add (pv 3) (pv 2)) (pe_fld (pe_fld (pv 0) rfl) rfl) (nomark _)) (pe_gi rfl (T.int 99 rfl)) (by exact pe_int)))) pss_nil)
    (pss_cons (ps_if (pt_val (pe_methG (pv 0) (T.cls 134 rfl) (T.meth 141 rfl) (ok_Desk_has_no_product T) (hr.mono (by decide)) (pa_cons (pv 1) pa_nil))) (pss_one (ps_ret (pe_gi rfl (T.int 98 rfl)))) pss_nil)
    (pss_one (ps_ret (pe_callG (ok_against T) (hr.mono (by decide)) rfl (T.glo 25 rfl) (pa_cons (pe_fld (pv 0) rfl) (pa_cons (pe_ix ix_list (pe_fld (pv 0) rfl) (pv 1) (fun _ _ => rfl)) (pa_cons (pv 3) (pa_cons (pv 2) pa_nil)))))))))
theorem pure_piece_fault (T : Txt K mg) (h : sp_piece_fault K vs H Q E) : t_piece_fault K { nx := fun _ H' => Q .non H', rt := Q } (start NL_piece_fault vs) H := by
  obtain ⟨A, S, s, kk, l, h, rfl, hA, hS, hk, hl, k⟩ := h
  obtain ⟨B, hB, hs⟩ := hA.st_some hS
  refine q_when (et_test (ev_eqi (ev_var rfl) (ev_neg ev_c))) (fun hb H1 e1 => ?_) (fun hb H1 e1 => ?_)
  · have c : kk = -1 := eq_of_beq hb
    have hf : pfault s S.products kk l h = if s.top < h + l then 2 else 0 := if_pos (by omega)
    refine s_ret (ev_if (v := .int ((pfault s S.products kk l h : Nat) : Int)) (et_test (ev_gt (ev_add (ev_var rfl) (ev_var rfl)) (ev_top T (ev_var rfl) (hA.mono e1) hB (hs.mono e1)))) (fun hb => ?_) (fun hb => ?_)) fun H2 e2 => k H2 (e1.trans e2)
    · rw [hf, if_pos (by have := of_decide_eq_true hb; omega)]
      exact ev_c
    · rw [hf, if_neg (by have := of_decide_eq_false hb; omega)]
      exact ev_c
  have c : ¬ kk = -1 := fun z => by
    rw [z] at hb
    cases hb
  obtain ⟨kn, rfl⟩ : ∃ n : Nat, kk = n := ⟨kk.toNat, by omega⟩
  have hf : pfault s S.products (kn : Int) l h = match (S.products[kn]?).join with
    | none => 8
    | some p => TimBuck.against s p h l := if_neg (by omega)
  refine q_when (et_B (ev_noProduct (ev_var rfl) (hA.mono e1) (ev_var rfl) (by omega))) (fun hb H2 e2 => s_ret ev_c fun H3 e3 => ?_) (fun hb H2 e2 => ?_)
  · have z := k H3 ((e1.trans e2).trans e3)
    rw [hf, Option.isNone_iff_eq_none.mp hb] at z
    exact z
  obtain ⟨p, hp⟩ : ∃ p, (S.products[kn]?).join = some p := Option.isSome_iff_exists.mp (by rw [← Option.not_isNone, hb]; rfl)
  rw [hp] at hf
  obtain ⟨C, hC, hPC⟩ := hA.pr_some (join_some hp)
  have e' := e1.trans e2
  refine s_ret (ev_against (evD_st T (ev_var rfl) (hA.mono e') hB) (evD_prod T (ev_var rfl) (hA.mono e') (ev_var rfl) hC) (ev_var rfl) (ev_var rfl) (hs.mono e') (hPC.mono e') hl) fun H3 e3 => ?_
  have z := k H3 (e'.trans e3)
  rw [hf] at z
  exact z
theorem ok_piece_fault (T : Txt K mg) : Good P w K mg base ("piece_fault", none) 3 ["desk", "k", "length", "height"] (sp_piece_fault K) :=
  good_mk (d := d_piece_fault) T 77 rfl rfl rfl sc_piece_fault (fun vs H Q E h => len_piece_fault h) (fun _ _ _ _ _ _ us hl => match us, hl with | [_, _, _, _], _ => rfl) (fun cdv A outer s H E hr => w_piece_fault T cdv A outer s H E hr) (fun vs H Q E h => pure_piece_fault T h)
/-! ## call 17 -/
abbrev sp_tell_judge (K : PySem.W.Frag) : Sp := spDeed K 0 fun _ rs => .judge rs
theorem len_tell_judge (h : sp_tell_judge K vs H Q E) : vs.length = 3 := spDeed_len h
abbrev NL_tell_judge : List Str := ["desk", "wholes", "row", "total", "height", "at", "k", "length", "fault"]
theorem sc_tell_judge : FnScope NL_tell_judge ["desk", "wholes", "row"] (defScope s_tell_judge) := ⟨rfl, rfl, rfl, by decide +kernel, rfl, by decide +kernel, by decide +kernel⟩
def t_tell_judge (K : PySem.W.Frag) : TS := (tSeq (tIfS (tNot (tB (tCall (sp_are_pieces K) [] E0 (tCons (tVar 2) tNil)))) (tRet (tLst (tCons (tC (.int (-1))) tNil))) tNext)
    (tSeq (tIfS (tTest (tOp rIsN (tFld K (tVar 0) "stem") (tC .non))) (tRet (tLst (tCons (tC (.int (-3))) tNil))) tNext)
    (tSeq (tAsg (tC (.int 0)) (gName 3))
    (tSeq (tAsg (tMeth (He.ga K "Stem") "foot" (sp_Stem_foot K) [] E0 (tFld K (tVar 0) "stem") tNil) (gName 4))
    (tSeq (tFor (iEnum K (tCons (tCall (sp_pairs_of K) [] E0 (tCons (tVar 2) tNil)) tNil)) (gTup K 2 (gCons (gName 5) (gCons (gTup K 2 (gCons (gName 6) (gCons (gName 7) gNil))) gNil))) (tSeq (tAsg (tCall (sp_piece_fault K) [] E0 (tCons (tVar 0) (tCons (tVar 6) (tCons (tVar 7) (tCons (tVar 4) tNil))))) (gName 8))
    (tSeq (tIfS (tTest (tOp rNe (tVar 8) (tC (.int 0)))) (tRet (tLst (tCons (tC (.int 0)) (tCons (tC (.int 0)) (tCons (tVar 5) (tCons (tVar 8) tNil)))))) tNext)
    (tSeq (tIfS (tTest (tOp (rI0 fun i j => .bl (decide (j ≤ i))) (tVar 6) (tC (.int 0)))) (tSeq (tAug 3 (tCall (sp_worth_of K) [] E0 (tCons (tFld K (tVar 0) "stem") (tCons (tOp (rIxL K) (tFld K (tVar 0) "products") (tVar 6)) (tCons (tVar 4) (tCons (tVar 7) tNil))))) (ipI fun i j => i + j))
    (tAug 4 (tFld K (tOp (rIxL K) (tFld K (tVar 0) "products") (tVar 6)) "over") (ipI fun i j => i + j))) tNext)
    (tAug 4 (tVar 7) (ipI fun i j => i + j))))))
    (tRet (tLst (tCons (tC (.int 0)) (tCons (tC (.int 1)) (tCons (tVar 3) (tCons (tVar 4) tNil)))))))))))
theorem w_tell_judge (T : Txt K mg) (cdv : Value) (A : Around) (outer : List Env) (s : Shared) (H : Hp) (E : XK) (hr : Room 5 (A.deeper (envOfC "tell_judge" (defScope s_tell_judge) s.heap.objs.size (He.fAd K ("tell_judge", none)) cdv))) :
    PSs (cxOf CX0 P w K mg base NL_tell_judge "tell_judge" (defScope s_tell_judge) (He.fAd K ("tell_judge", none)) cdv A outer s H E).nox (defBody s_tell_judge) (t_tell_judge K) := by
  exact (pss_cons (ps_if (pt_not (pt_val (pe_callG (ok_are_pieces T) (hr.mono (by decide)) rfl (T.glo 15 rfl) (pa_cons (pv 2) pa_nil)))) (pss_one (ps_ret (pe_lst (pa_cons (pe_gi rfl (T.int 87 rfl)) pa_nil)))) pss_nil)
    (pss_cons (ps_if (pt_cmpR op_isN (pe_fld (pv 0) rfl) (by exact pe_non) (nomark _)) (pss_one (ps_ret (pe_lst (pa_cons (pe_gi rfl (T.int 88 rfl)) pa_nil)))) pss_nil)
    (pss_cons (ps_set (i := 3) sc_tell_judge.nd rfl (.inl rfl) (by exact pe_int))
    (pss_cons (ps_set (i := 4) sc_tell_judge.nd rfl (.inl rfl) (pe_methG0 (pe_fld (pv 0) rfl) (T.cls 101 rfl) (T.meth 110 rfl) (ok_Stem_foot T) (hr.mono (by decide))))
    (pss_cons (ps_for PassesOwn.never rfl (pi_enum rfl (T.free 86 rfl) (pa_cons (pe_callG (ok_pairs_of T) (hr.mono (by decide)) rfl (T.glo 17 rfl) (pa_cons (pv 2) pa_nil)) pa_nil)) (pg_tup rfl (pgs_cons (pg_name (i := 5) sc_tell_judge.nd rfl (.inl rfl)) (pgs_cons (pg_tup rfl (pgs_cons (pg_name (i := 6) sc_tell_judge.nd rfl (.inl rfl)) (pgs_cons (pg_name (i := 7) sc_tell_judge.nd rfl (.inl rfl)) pgs_nil))) pgs_nil))) (pss_cons (ps_set (i := 8) sc_tell_judge.nd rfl (.inl rfl) (pe_callG (ok_piece_fault T) (hr.mono (by decide)) rfl (T.glo 59 rfl) (pa_cons (pv 0) (pa_cons (pv 6) (pa_cons (pv 7) (pa_cons (pv 4) pa_nil))))))
    (pss_cons (ps_if (pt_cmpR op_ne (pv 8) (by exact pe_int) (nomark _)) (pss_one (ps_ret (pe_lst (pa_cons (by exact pe_int) (pa_cons (by exact pe_int) (pa_cons (pv 5) (pa_cons (pv 8) pa_nil))))))) pss_nil)
    (pss_cons (ps_if (pt_cmpR op_ge (pv 6) (by exact pe_int) (nomark _)) (pss_cons (ps_aug (i := 3) sc_tell_judge.nd rfl (.inl rfl) (pe_callG (ok_worth_of T) (hr.mono (by decide)) rfl (T.glo 26 rfl) (pa_cons (pe_fld (pv 0) rfl) (pa_cons (pe_ix ix_list (pe_fld (pv 0) rfl) (pv 6) (fun _ _ => rfl)) (pa_cons (pv 4) (pa_cons (pv 7) pa_nil))))) ip_add)
    (pss_one (ps_aug (i := 4) sc_tell_judge.nd rfl (.inl rfl) (pe_fld (pe_ix ix_list (pe_fld (pv 0) rfl) (pv 6) (fun _ _ => rfl)) rfl) ip_add))) pss_nil)
    (pss_one (ps_aug (i := 4) sc_tell_judge.nd rfl (.inl rfl) (pv 7) ip_add))))))
    (pss_one (ps_ret (pe_lst (pa_cons (by exact pe_int) (pa_cons (by exact pe_int) (pa_cons (pv 3) (pa_cons (pv 4) pa_nil))))))))))))
theorem pure_tell_judge (T : Txt K mg) (h : sp_tell_judge K vs H Q E) : t_tell_judge K { nx := fun _ H' => Q .non H', rt := Q } (start NL_tell_judge vs) H := by
  obtain ⟨A, S, aW, ws, aR, rs, rfl, hA, hW, hR, hn, hr, k⟩ := h
  have st : Wrtibu.step S (.judge rs) = (S, match Wrtibu.cuttingOf rs with
    | none => TimBase.RANGE
    | some l => (match S.stem with
      | none => TimBase.NONE
      | some s => match TimBuck.judgeFrom s S.products 0 s.foot l with
        | .ok (w, a) => [0, 1, (w : Int), (a : Int)]
        | .error (i, e) => [0, 0, (i : Int), (e : Int)])) := rfl
  rw [pieces_law] at st
  refine q_when (et_not (et_B (ev_L1 (ev_var rfl) hR hr trivial))) (fun hb H2 e2 => k.ret1 hA ?_ e2 rfl) (fun hb H2 e1 => ?_)
  · rw [if_neg (by rw [not_t hb]; decide)] at st
    exact st
  have hm := not_f hb
  rw [if_pos hm] at st
  obtain ⟨ceven, c200, call⟩ := pieces_ok hm
  refine q_when (et_test (ev_noStem T (ev_var rfl) (hA.mono e1))) (fun hb H3 e3 => k.ret1 hA ?_ (e1.trans e3) rfl) (fun hb H3 e3 => ?_)
  · rw [Option.isNone_iff_eq_none.mp hb] at st
    exact st
  replace e1 := e1.trans e3
  obtain ⟨s, hS⟩ := stem_is hb
  obtain ⟨B, hB, hs⟩ := hA.st_some hS
  rw [hS] at st
  obtain ⟨L, hL⟩ : ∃ L : List (Int × Nat), L = (prs rs).map fun (x : Int × Int) => (x.1, x.2.toNat) := ⟨_, rfl⟩
  rw [← hL] at st
  have st2 : Wrtibu.step S (.judge rs) = (S, match TimBuck.judgeFrom s S.products 0 s.foot L with
        | .ok (w, a) => [0, 1, (w : Int), (a : Int)]
        | .error (i, e) => [0, 0, (i : Int), (e : Int)]) := st
  refine q_asg ev_c fun H4 e4 => ?_
  replace e1 := e1.trans e4
  refine q_asg (ev_S0 (evD_st T (ev_var rfl) (hA.mono e1) hB) (hs.mono e1) (stF_no (by decide +kernel))) fun H5 e5 => ?_
  replace e1 := e1.trans e5
  refine q_enX (X := isT K (pairsL rs)) (ex_call (ea_cons (ev_var rfl) ea_nil) (fun H6 e6 Q' q => ⟨aR, rs, rfl, ex_l (e1.trans e6) hR, hr, ceven, isT_of q⟩) isT_mono) fun v H6 e6 hv => ?_
  obtain ⟨aQ, ts, rfl, hfQ, hQ, hT⟩ := hv
  rw [pairsL_prs] at hT
  replace e1 := e1.trans e6
  have hLl : L.length = (prs rs).length := by rw [hL, List.length_map]
  refine q_forEn (H0 := H6) (ea_cons ev_c ea_nil) (sq_of hQ) (fun i σ' H' => ∃ (t h : Nat) (u v w x : Option V), σ' = [some (.ref A.d), some (.ref aW), some (.ref aR), some (.int (t : Int)), some (.int (h : Int)), u, v, w, x] ∧ Ex H6 H' ∧ h % 10 = 0 ∧ TimBuck.judgeFrom s S.products 0 s.foot L = addT t (TimBuck.judgeFrom s S.products i h (L.drop i)))
    (fun H7 e7 => ⟨0, s.foot, none, none, none, none, rfl, e7, hs.ok.foot10, by rw [addT_zero]; rfl⟩) (fun i σ' H' ⟨_, _, _, _, _, _, _, e, _⟩ => e) ?_ ?_
  · rintro i x σ' H' J hx ⟨t, h, u, v, w', y, rfl, e, h10, hj⟩ eJ
    obtain ⟨tt, htt, rfl⟩ := map_at hx
    obtain ⟨κ, hκ, hSq⟩ := tups_get hT htt
    obtain ⟨q, hq, rfl⟩ := map_at hκ
    obtain ⟨b1, b2, b3, b4, b5⟩ := call q (List.mem_of_getElem? hq)
    obtain ⟨ln, hln⟩ : ∃ n : Nat, q.2 = n := ⟨q.2.toNat, by omega⟩
    have eq' : q.2.toNat = ln := by omega
    have hLi : L.drop i = (q.1, ln) :: L.drop (i + 1) := by
      have hg : L[i]? = some (q.1, ln) := by
        rw [hL, List.getElem?_map, hq]
        show some (q.1, q.2.toNat) = _
        rw [eq']
      rw [List.drop_eq_getElem_cons (List.getElem?_eq_some_iff.mp hg).1, (List.getElem?_eq_some_iff.mp hg).2]
    rw [hLi] at hj
    have eH : Ex H J := (e1.trans e).trans eJ
    refine ⟨_, _, rfl, _, _, rfl, ⟨tt, _, rfl, ex_t (e.trans eJ) hSq, rfl, _, _, rfl, _, _, rfl, rfl, rfl, ?_⟩⟩
    show tSeq _ _ _ [some (.ref A.d), some (.ref aW), some (.ref aR), some (.int (t : Int)), some (.int (h : Int)), some (.int (i : Int)), some (.int q.1), some (.int q.2), y] J
    rw [hln]
    refine q_asg (v := .int ((pfault s S.products q.1 ln h : Nat) : Int)) (ev_call (ea_cons (ev_var rfl) (ea_cons (ev_var rfl) (ea_cons (ev_var rfl) (ea_cons (ev_var rfl) ea_nil)))) fun H7 e7 Q' qq _ => ⟨A, S, s, q.1, ln, h, rfl, hA.mono (eH.trans e7), hS, ⟨b1, b2⟩, ⟨h10, by omega, by omega⟩, qq⟩) fun H7 e7 => ?_
    have eH7 := eH.trans e7
    refine q_when (et_test (ev_nei (ev_var rfl) ev_c)) (fun hb H8 e8 => ?_) (fun hb H8 e8 => ?_)
    · have hne : pfault s S.products q.1 ln h ≠ 0 := fun z => by
        rw [z] at hb
        cases hb
      rw [judge_bad hne] at hj
      refine k.ret (out := [0, 0, (i : Int), ((pfault s S.products q.1 ln h : Nat) : Int)]) hA (el_lst (ea_cons ev_c (ea_cons ev_c (ea_cons (ev_var rfl) (ea_cons (ev_var rfl) ea_nil)))) (by show 4 ≤ 100000; decide)) (st2.trans ?_) rfl (eH7.trans e8) rfl
      rw [hj]
      rfl
    have h0 : pfault s S.products q.1 ln h = 0 := by
      have := eq_of_beq (not_f hb)
      omega
    have eH8 := eH7.trans e8
    have e68 : Ex H6 H8 := ((e.trans eJ).trans e7).trans e8
    by_cases c : q.1 < 0
    · have hj2 := hj
      rw [judge_waste c h0] at hj2
      refine q_when (b := false) (et_is (et_test (ev_ge (ev_var rfl) ev_c)) (decide_eq_false (by omega))) (fun hb => by cases hb) (fun hb H9 e9 => s_aug rfl (ev_var rfl) fun H10 e10 => ⟨t, h + ln, some (.int (i : Int)), some (.int q.1), some (.int (ln : Int)), some (.int ((pfault s S.products q.1 ln h : Nat) : Int)), ?_, (e68.trans e9).trans e10, by omega, hj2⟩)
      show [_, _, _, _, some (V.int ((h : Int) + (ln : Int))), _, _, _, _] = _
      rw [← Int.natCast_add]
    · obtain ⟨kn, hkn⟩ : ∃ n : Nat, q.1 = n := ⟨q.1.toNat, by omega⟩
      have hfp : pfault s S.products (kn : Int) ln h = match (S.products[kn]?).join with
        | none => 8
        | some p => TimBuck.against s p h ln := if_neg (by omega)
      rw [hkn] at h0 hj
      rw [hfp] at h0
      cases hp : (S.products[kn]?).join with
      | none =>
        rw [hp] at h0
        cases h0
      | some p =>
        rw [hp] at h0
        have ha : TimBuck.against s p h ln = 0 := h0
        have hpk := join_some hp
        obtain ⟨C, hC, hPC⟩ := hA.pr_some hpk
        rw [judge_log hpk ha, addT_add] at hj
        have az := against_zero ha
        have o10 := hPC.ok.o10
        refine q_when (b := true) (et_is (et_test (ev_ge (ev_var rfl) ev_c)) (decide_eq_true (by omega))) (fun hb H9 e9 => ?_) (fun hb => by cases hb)
        have eH9 := eH8.trans e9
        have hkv : V.int q.1 = V.int (kn : Int) := by rw [hkn]
        refine q_aug (a := (t : Int)) (b := ((TimBuck.worth s p h ln : Nat) : Int)) rfl (ev_worth (evD_st T (ev_var rfl) (hA.mono eH9) hB) (evD_prod T (ev_var rfl) (hA.mono eH9) (ev_int (ev_var rfl) hkn) hC) (ev_var rfl) (ev_var rfl) (hs.mono eH9) (hPC.mono eH9) ⟨h10, by omega, by omega⟩) fun H10 e10 => ?_
        refine s_aug (a := (h : Int)) (b := (p.over : Int)) rfl (evP_over T (evD_prod T (ev_var rfl) (hA.mono (eH9.trans e10)) (ev_int (ev_var rfl) hkn) hC) (hPC.mono (eH9.trans e10))) fun H11 e11 => ?_
        refine s_aug (a := (h : Int) + (p.over : Int)) (b := (ln : Int)) rfl (ev_var rfl) fun H12 e12 => ⟨t + TimBuck.worth s p h ln, h + ln + p.over, some (.int (i : Int)), some (.int q.1), some (.int (ln : Int)), some (.int ((pfault s S.products q.1 ln h : Nat) : Int)), ?_, (((e68.trans e9).trans e10).trans e11).trans e12, by omega, hj⟩
        show [_, _, _, some (V.int ((t : Int) + ((TimBuck.worth s p h ln : Nat) : Int))), some (V.int ((h : Int) + (p.over : Int) + (ln : Int))), _, _, _, _] = _
        rw [← Int.natCast_add, show (h : Int) + (p.over : Int) + (ln : Int) = ((h + ln + p.over : Nat) : Int) by omega]
  · rintro σ' H' ⟨t, h, u, v, w', y, rfl, e, h10, hj⟩
    have e0 : L.drop (ts.map V.ref).length = [] := by
      rw [List.length_map, hT.length, List.length_map]
      exact List.drop_eq_nil_of_le (by omega)
    rw [e0] at hj
    refine k.ret (out := [0, 1, (t : Int), (h : Int)]) hA (el_lst (ea_cons ev_c (ea_cons ev_c (ea_cons (ev_var rfl) (ea_cons (ev_var rfl) ea_nil)))) (by show 4 ≤ 100000; decide)) (st2.trans ?_) rfl (e1.trans e) rfl
    rw [hj]
    rfl
theorem ok_tell_judge (T : Txt K mg) : Good P w K mg base ("tell_judge", none) 6 ["desk", "wholes", "row"] (sp_tell_judge K) :=
  good_mk (d := d_tell_judge) T 78 rfl rfl rfl sc_tell_judge (fun vs H Q E h => len_tell_judge h) (fun _ _ _ _ _ _ us hl => match us, hl with | [_, _, _], _ => rfl) (fun cdv A outer s H E hr => w_tell_judge T cdv A outer s H E hr) (fun vs H Q E h => pure_tell_judge T h)
end
end Sb
end
section
set_option maxHeartbeats 4000000
namespace Sb
open TimBuck (Stem Product Piece Log)
/-! ## rot put on -/
def rotS (s : Stem) (a b : Nat) : Stem := s.change a b fun x => (x.1, true)
section
variable {s : Stem} {a b : Nat}
theorem rot_top : (rotS s a b).top = s.top := by
  show 10 * (s.change a b _).cells.length = 10 * s.cells.length
  rw [change_len]
theorem rot_fst : (rotS s a b).cells.map Prod.fst = s.cells.map Prod.fst := by
  apply List.ext_getElem?
  intro i
  rw [List.getElem?_map, List.getElem?_map]
  by_cases h : i < s.cells.length
  · show ((s.change a b fun x => (x.1, true)).cells[i]?).map Prod.fst = _
    rw [change_get h, List.getElem?_eq_getElem h]
    show some (if a ≤ 10 * i ∧ 10 * i < b then (s.cells[i].1, true) else s.cells[i]).1 = some s.cells[i].1
    split <;> rfl
  · rw [List.getElem?_eq_none (by
      show (s.change a b fun x => (x.1, true)).cells.length ≤ i
      rw [change_len]
      omega), List.getElem?_eq_none (by omega)]
theorem rot_ok (h : StemOk s) : StemOk (rotS s a b) := by
  refine ⟨h.pts, ?_, fun c hc => ?_, ?_, h.chn, h.crk⟩
  · show 10 * (s.change a b fun x => (x.1, true)).cells.length = lastH s.points
    rw [change_len]
    exact h.len
  · have : c.1 ∈ (rotS s a b).cells.map Prod.fst := List.mem_map.mpr ⟨c, hc, rfl⟩
    rw [rot_fst] at this
    obtain ⟨d, hd, e⟩ := List.mem_map.mp this
    rw [← e]
    exact h.gr d hd
  · rw [rot_top]
    exact h.foot
theorem fold_fst : ∀ l m : List (Nat × Bool), l.map Prod.fst = m.map Prod.fst → l.foldr (fun (x : Nat × Bool) (m : Nat) => max x.1 m) 0 = m.foldr (fun (x : Nat × Bool) (m : Nat) => max x.1 m) 0
  | [], [], _ => rfl
  | [], _ :: _, h => by cases h
  | _ :: _, [], h => by cases h
  | x :: l, y :: m, h => by
    rw [List.map_cons, List.map_cons] at h
    injection h with h1 h2
    rw [List.foldr_cons, List.foldr_cons, fold_fst l m h2, h1]
theorem rot_grade (x y : Nat) : (rotS s a b).grade x y = s.grade x y := by
  unfold Stem.grade Stem.part
  apply fold_fst
  rw [List.map_take, List.map_drop, List.map_take, List.map_drop, rot_fst]
theorem rotten_iff {t : Stem} {x y : Nat} (h : Cells t x y) : t.rotten x y = true ↔ ∃ j, x ≤ 10 * j ∧ 10 * j < y ∧ ∃ c, t.cells[j]? = some c ∧ c.2 = true := by
  obtain ⟨h1, h2, h3, h4⟩ := h
  unfold Stem.rotten Stem.part
  rw [List.any_eq_true]
  constructor
  · rintro ⟨c, hc, h⟩
    obtain ⟨i, hi⟩ := List.getElem?_of_mem hc
    rw [List.getElem?_take] at hi
    split at hi
    · rename_i hlt
      rw [List.getElem?_drop] at hi
      exact ⟨x / 10 + i, by omega, by omega, c, hi, h⟩
    · cases hi
  · rintro ⟨j, j1, j2, c, hc, h⟩
    refine ⟨c, List.mem_of_getElem? (i := j - x / 10) ?_, h⟩
    rw [List.getElem?_take, if_pos (by omega), List.getElem?_drop, show x / 10 + (j - x / 10) = j by omega]
    exact hc
theorem rot_rotten (ha : Cells s a b) {x y : Nat} (h : Cells s x y) : (rotS s a b).rotten x y = (s.rotten x y || (decide (a < y) && decide (x < b))) := by
  have h' : Cells (rotS s a b) x y := ⟨h.1, h.2.1, h.2.2.1, by rw [rot_top]; exact h.2.2.2⟩
  rw [Bool.eq_iff_iff, rotten_iff h', Bool.or_eq_true, rotten_iff h, Bool.and_eq_true, decide_eq_true_eq, decide_eq_true_eq]
  obtain ⟨a1, a2, a3, a4⟩ := ha
  obtain ⟨h1, h2, h3, h4⟩ := h
  have htop : s.top = 10 * s.cells.length := rfl
  constructor
  · rintro ⟨j, j1, j2, c, hc, hr⟩
    have hj : j < s.cells.length := by omega
    have hg : (rotS s a b).cells[j]? = some (if a ≤ 10 * j ∧ 10 * j < b then (s.cells[j].1, true) else s.cells[j]) := change_get hj
    rw [hg] at hc
    by_cases d : a ≤ 10 * j ∧ 10 * j < b
    · exact .inr ⟨by omega, by omega⟩
    · rw [if_neg d] at hc
      cases hc
      exact .inl ⟨j, j1, j2, _, List.getElem?_eq_getElem hj, hr⟩
  · rintro (⟨j, j1, j2, c, hc, hr⟩ | ⟨d1, d2⟩)
    · have hj : j < s.cells.length := (List.getElem?_eq_some_iff.mp hc).1
      have hg : (rotS s a b).cells[j]? = some (if a ≤ 10 * j ∧ 10 * j < b then (s.cells[j].1, true) else s.cells[j]) := change_get hj
      refine ⟨j, j1, j2, _, hg, ?_⟩
      split
      · rfl
      · rw [(List.getElem?_eq_some_iff.mp hc).2]
        exact hr
    · by_cases q : x ≤ a
      · have hj : a / 10 < s.cells.length := by omega
        have hg : (rotS s a b).cells[a / 10]? = some (if a ≤ 10 * (a / 10) ∧ 10 * (a / 10) < b then (s.cells[a / 10].1, true) else s.cells[a / 10]) := change_get hj
        refine ⟨a / 10, by omega, by omega, _, hg, ?_⟩
        rw [if_pos (by omega)]
      · have hj : x / 10 < s.cells.length := by omega
        have hg : (rotS s a b).cells[x / 10]? = some (if a ≤ 10 * (x / 10) ∧ 10 * (x / 10) < b then (s.cells[x / 10].1, true) else s.cells[x / 10]) := change_get hj
        refine ⟨x / 10, by omega, by omega, _, hg, ?_⟩
        rw [if_pos (by omega)]
theorem rot_against (ha : Cells s a b) {p : Product} (o : ProdOk p) {h l : Nat} (h10 : h % 10 = 0) (l10 : l % 10 = 0) (hl : 0 < l) : TimBuck.against (rotS s a b) p h l = 0 ↔ TimBuck.against s p h l = 0 ∧ (b ≤ h ∨ h + (l + p.over) ≤ a) := by
  rw [against_eq, against_eq]
  have o10 := o.o10
  by_cases c1 : p.has l = false
  · rw [if_pos c1, if_pos c1]
    exact ⟨fun z => (by cases z), fun z => (by cases z.1)⟩
  rw [if_neg c1, if_neg c1, rot_top]
  have ef : (rotS s a b).foot = s.foot := rfl
  rw [ef]
  by_cases c2 : h < s.foot ∨ s.top < h + l + p.over
  · rw [if_pos c2, if_pos c2]
    exact ⟨fun z => (by cases z), fun z => (by cases z.1)⟩
  rw [if_neg c2, if_neg c2]
  have hc : Cells s h (h + l + p.over) := ⟨h10, by omega, by omega, by omega⟩
  rw [rot_rotten ha hc, rot_grade]
  have ec : (rotS s a b).crooks = s.crooks := rfl
  have ed : ∀ x, (rotS s a b).diameter x = s.diameter x := fun _ => rfl
  rw [ec, ed, ed]
  by_cases c3 : s.rotten h (h + l + p.over) = true
  · rw [if_pos c3, if_pos (by rw [c3]; rfl)]
    exact ⟨fun z => (by cases z), fun z => (by cases z.1)⟩
  rw [if_neg c3]
  have c3' : s.rotten h (h + l + p.over) = false := by simpa using c3
  rw [c3', Bool.false_or]
  by_cases c4 : a < h + l + p.over ∧ h < b
  · rw [if_pos (by rw [decide_eq_true c4.1, decide_eq_true c4.2]; rfl)]
    exact ⟨fun z => (by cases z), fun z => absurd z.2 (by omega)⟩
  · rw [if_neg (by rw [Bool.and_eq_true, decide_eq_true_eq, decide_eq_true_eq]; exact c4)]
    exact ⟨fun z => ⟨z, by omega⟩, fun z => z.1⟩
theorem rot_worth (p : Product) (h l : Nat) : TimBuck.worth (rotS s a b) p h l = TimBuck.worth s p h l := rfl
end
theorem logOf_mem {s : Stem} {ps : TimBuck.Products} (c : Ctx s ps) {h : Nat} (h10 : h % 10 = 0) {x : Log} : x ∈ TimBuck.logsAt s ps h ↔ ∃ p, ps[x.product]? = some (some p) ∧ TimBuck.against s p h x.long = 0 ∧ x = mkLog s p h x.product x.long := by
  constructor
  · intro hx
    obtain ⟨p, h1, h2, h3, _⟩ := log_fact c hx
    exact ⟨p, h1, h2, h3⟩
  · rintro ⟨p, h1, h2, h3⟩
    have z := against_zero h2
    have o := c.pr _ p h1
    have t := paid_ten o (has_mem o z.1)
    have o10 := o.o10
    have hk : x.product < 8 := by
      have := (List.getElem?_eq_some_iff.mp h1).1
      rw [c.len] at this
      exact this
    have hl := c.len
    exact mem_logsAt.mpr ⟨(x.long + p.over) / 10 - 1, x.product, by omega, by omega, logOf_some.mpr ⟨p, x.long, h1, by omega, by omega, h2, h3⟩⟩
theorem lr_irr (x : Log) : ¬ LR x x := fun h => by
  unfold LR at h
  omega
theorem lr_asy (x y : Log) (h : LR x y) : ¬ LR y x := fun h' => by
  unfold LR at h h'
  omega
theorem pair_filter {α : Type} {R : α → α → Prop} (f : α → Bool) {l : List α} (h : l.Pairwise R) : (l.filter f).Pairwise R := List.Pairwise.sublist List.filter_sublist h
section
variable {s : Stem} {ps : TimBuck.Products} {a b : Nat}
theorem rot_ctx (c : Ctx s ps) : Ctx (rotS s a b) ps := ⟨rot_ok c.st, c.len, c.pr⟩
theorem rot_logs (c : Ctx s ps) (ha : Cells s a b) {h : Nat} (h10 : h % 10 = 0) : TimBuck.logsAt (rotS s a b) ps h = (TimBuck.logsAt s ps h).filter fun x => decide (b ≤ h) || decide (h + x.takes ≤ a) := by
  refine only_one lr_irr lr_asy (pair_logsAt _ ps h) (pair_filter _ (pair_logsAt s ps h)) fun x => ?_
  rw [logOf_mem (rot_ctx c) h10, List.mem_filter, Bool.or_eq_true, decide_eq_true_eq, decide_eq_true_eq]
  constructor
  · rintro ⟨p, h1, h2, h3⟩
    have o := c.pr _ p h1
    have z := against_zero h2
    have t := paid_ten o (has_mem o z.1)
    obtain ⟨h4, h5⟩ := (rot_against ha o h10 t.1 (by omega)).mp h2
    refine ⟨(logOf_mem c h10).mpr ⟨p, h1, h4, h3⟩, ?_⟩
    have et : x.takes = x.long + p.over := by rw [h3]; rfl
    omega
  · rintro ⟨hx, h5⟩
    obtain ⟨p, h1, h2, h3, h4, _⟩ := log_fact c hx
    have o := c.pr _ p h1
    have z := against_zero h2
    have t := paid_ten o (has_mem o z.1)
    exact ⟨p, h1, (rot_against ha o h10 t.1 (by omega)).mpr ⟨h2, by omega⟩, h3⟩
theorem rot_steps (c : Ctx s ps) (ha : Cells s a b) {i : Nat} (hi : i ≤ tens s) : stepsAt (rotS s a b) ps (s.foot + 10 * i) = (stepsAt s ps (s.foot + 10 * i)).filter (keepF (s.foot + 10 * i) a b) := by
  have f10 := c.st.foot10
  unfold stepsAt
  rw [rot_logs c ha (by omega), rot_top, List.filter_append, List.filter_map]
  congr 1
  · congr 1
    apply List.filter_congr
    intro x hx
    obtain ⟨p, _, _, _, _, h2, _⟩ := log_fact c hx
    show _ = (((x.product : Int) == -1) || (decide (b ≤ s.foot + 10 * i) || decide (s.foot + 10 * i + 10 * (x.takes / 10) ≤ a)))
    have e1 : ((x.product : Int) == -1) = false := by
      rw [beq_eq_false_iff_ne]
      omega
    rw [e1, Bool.false_or, show 10 * (x.takes / 10) = x.takes by omega]
  · split
    · rfl
    · rfl
theorem rot_board (c : Ctx s ps) (ha : Cells s a b) : (boardL s ps).zipIdx.map (fun z => z.1.filter (keepF (s.foot + 10 * z.2) a b)) = boardL (rotS s a b) ps := by
  apply List.ext_getElem?
  intro i
  have et : tens (rotS s a b) = tens s := by
    unfold tens
    rw [rot_top]
    rfl
  have hbl : (boardL s ps).length = tens s + 1 := boardL_len
  have hbl' : (boardL (rotS s a b) ps).length = tens s + 1 := by rw [boardL_len, et]
  by_cases h : i ≤ tens s
  · rw [List.getElem?_map, List.getElem?_zipIdx, boardL_get h, boardL_get (by rw [et]; exact h)]
    show some ((stepsAt s ps (s.foot + 10 * i)).filter (keepF (s.foot + 10 * (0 + i)) a b)) = some (stepsAt (rotS s a b) ps (s.foot + 10 * i))
    rw [Nat.zero_add, rot_steps c ha h]
  · rw [List.getElem?_eq_none (by rw [List.length_map, List.length_zipIdx]; omega), List.getElem?_eq_none (by omega)]
/-! ## a product less -/
theorem wo_get {k j : Nat} {p : Product} (hk : k < ps.length) : (ps.set k none)[j]? = some (some p) ↔ ps[j]? = some (some p) ∧ j ≠ k := by
  by_cases e : j = k
  · subst e
    rw [List.getElem?_set_self hk]
    exact ⟨fun z => (by cases z), fun z => absurd rfl z.2⟩
  · rw [List.getElem?_set_ne (Ne.symm e)]
    exact ⟨fun z => ⟨z, e⟩, fun z => z.1⟩
theorem wo_ctx (c : Ctx s ps) {k : Nat} (hk : k < 8) : Ctx s (ps.set k none) := ⟨c.st, by rw [List.length_set, c.len], fun j p h => c.pr j p ((wo_get (by rw [c.len]; exact hk)).mp h).1⟩
theorem wo_logs (c : Ctx s ps) {k : Nat} (hk : k < 8) {h : Nat} (h10 : h % 10 = 0) : TimBuck.logsAt s (ps.set k none) h = (TimBuck.logsAt s ps h).filter fun x => !((x.product : Int) == (k : Int)) := by
  refine only_one lr_irr lr_asy (pair_logsAt _ _ h) (pair_filter _ (pair_logsAt s ps h)) fun x => ?_
  rw [logOf_mem (wo_ctx c hk) h10, List.mem_filter, logOf_mem c h10]
  have hb : (!((x.product : Int) == (k : Int))) = true ↔ x.product ≠ k := by
    rw [Bool.not_eq_true', beq_eq_false_iff_ne]
    omega
  rw [hb]
  constructor
  · rintro ⟨p, h1, h2, h3⟩
    obtain ⟨h4, h5⟩ := (wo_get (by rw [c.len]; exact hk)).mp h1
    exact ⟨⟨p, h4, h2, h3⟩, h5⟩
  · rintro ⟨⟨p, h1, h2, h3⟩, h5⟩
    exact ⟨p, (wo_get (by rw [c.len]; exact hk)).mpr ⟨h1, h5⟩, h2, h3⟩
theorem wo_board (c : Ctx s ps) {k : Nat} (hk : k < 8) : (boardL s ps).map (fun l => l.filter fun x => !(kS x == (k : Int))) = boardL s (ps.set k none) := by
  have f10 := c.st.foot10
  unfold boardL
  rw [List.map_map]
  apply List.map_congr_left
  intro i _
  show (stepsAt s ps (s.foot + 10 * i)).filter (fun x => !(kS x == (k : Int))) = stepsAt s (ps.set k none) (s.foot + 10 * i)
  unfold stepsAt
  rw [wo_logs c hk (by omega), List.filter_append, List.filter_map]
  congr 1
  split
  · have e : (!(kS TimBuck.Step.waste == (k : Int))) = true := by
      rw [Bool.not_eq_true', beq_eq_false_iff_ne]
      show (-1 : Int) ≠ (k : Int)
      omega
    rw [List.filter_cons, if_pos e]
    rfl
  · rfl
end
end Sb
end
section
set_option maxHeartbeats 4000000
namespace Sb
open PySem PySem.Spec PySem.Calls PyProof.Rows L2 Evl
open TimBuck (Stem Product Piece diameterIn Log)
section
variable {K : PySem.W.Frag} {σ : L2.St} {H : Hp} {ta tb te : TE} {E' : XK}
/-- most_worths(board)[0] -/
theorem ev_most0 {a : Addr} {b : List (List TimBuck.Step)} (h : Ev ta σ H (.ref a)) (hB : BoardAt K H a b) (ok : BoardOk b) : Ev (tOp (rIxL K) (tCall (sp_most_worths K) [] E' (tCons ta tNil)) (tC (.int 0))) σ H (.int (((rowB b).headD 0 : Nat) : Int)) :=
  ev_opL1 (el_most h hB ok) (fun _ _ => ev_c) fun p H1 hp e => rv_ixL (sq_of hp) (at_int (n := 0) rfl (headD_get (n := b.length - 1) (by rw [rowB_len]; have := ok.pos; omega)))
end
section
variable {P : Program} {w : World} {K : PySem.W.Frag} {mg : Str → Option Value} {base : Heap} {vs : List V} {H : Hp} {Q : VK} {E : XK}
abbrev sp_tell_lost (K : PySem.W.Frag) : Sp := spDeed K 2 fun ws _ => .lost (ws.getD 0 0) (ws.getD 1 0)
theorem len_tell_lost (h : sp_tell_lost K vs H Q E) : vs.length = 3 := spDeed_len h
abbrev NL_tell_lost : List Str := ["desk", "wholes", "row", "a", "b", "board", "rotten"]
theorem sc_tell_lost : FnScope NL_tell_lost ["desk", "wholes", "row"] (defScope s_tell_lost) := ⟨rfl, rfl, rfl, by decide +kernel, rfl, by decide +kernel, by decide +kernel⟩
def t_tell_lost (K : PySem.W.Frag) : TS := (tSeq (tAsg (tVar 1) (gUnl K 2 (gCons (gName 3) (gCons (gName 4) gNil))))
    (tSeq (tIfS (tNot (tB (tCall (sp_is_stretch K) [] E0 (tCons (tVar 3) (tCons (tVar 4) tNil))))) (tRet (tLst (tCons (tC (.int (-1))) tNil))) tNext)
    (tSeq (tIfS (tTest (tOp rIsN (tFld K (tVar 0) "stem") (tC .non))) (tRet (tLst (tCons (tC (.int (-3))) tNil))) tNext)
    (tSeq (tIfS (tTest (tOp (rI0 fun i j => .bl (decide (j < i))) (tVar 4) (tFld K (tFld K (tVar 0) "stem") "top"))) (tRet (tLst (tCons (tC (.int (-4))) tNil))) tNext)
    (tSeq (tAsg (tCall (sp_board_of K) [] E0 (tCons (tFld K (tVar 0) "stem") (tCons (tFld K (tVar 0) "products") tNil))) (gName 5))
    (tSeq (tAsg (tCall (sp_board_with_rot K) [] E0 (tCons (tVar 5) (tCons (tMeth (He.ga K "Stem") "foot" (sp_Stem_foot K) [] E0 (tFld K (tVar 0) "stem") tNil) (tCons (tVar 3) (tCons (tVar 4) tNil))))) (gName 6))
    (tRet (tLst (tCons (tC (.int 0)) (tCons (tOp (rI0 fun i j => .int (i - j)) (tOp (rIxL K) (tCall (sp_most_worths K) [] E0 (tCons (tVar 5) tNil)) (tC (.int 0))) (tOp (rIxL K) (tCall (sp_most_worths K) [] E0 (tCons (tVar 6) tNil)) (tC (.int 0)))) tNil))))))))))
theorem w_tell_lost (T : Txt K mg) (cdv : Value) (A : Around) (outer : List Env) (s : Shared) (H : Hp) (E : XK) (hr : Room 4 (A.deeper (envOfC "tell_lost" (defScope s_tell_lost) s.heap.objs.size (He.fAd K ("tell_lost", none)) cdv))) :
    PSs (cxOf CX0 P w K mg base NL_tell_lost "tell_lost" (defScope s_tell_lost) (He.fAd K ("tell_lost", none)) cdv A outer s H E).nox (defBody s_tell_lost) (t_tell_lost K) := by
  exact (pss_cons (ps_asg (pv 1) (pg_unl rfl (pgs_cons (pg_name (i := 3) sc_tell_lost.nd rfl (.inl rfl)) (pgs_cons (pg_name (i := 4) sc_tell_lost.nd rfl (.inl rfl)) pgs_nil))))
    (pss_cons (ps_if (pt_not (pt_val (pe_callG (ok_is_stretch T) (hr.mono (by decide)) rfl (T.glo 4 rfl) (pa_cons (pv 3) (pa_cons (pv 4) pa_nil))))) (pss_one (ps_ret (pe_lst (pa_cons (pe_gi rfl (T.int 87 rfl)) pa_nil)))) pss_nil)
    (pss_cons (ps_if (pt_cmpR op_isN (pe_fld (pv 0) rfl) (by exact pe_non) (nomark _)) (pss_one (ps_ret (pe_lst (pa_cons (pe_gi rfl (T.int 88 rfl)) pa_nil)))) pss_nil)
    (pss_cons (ps_if (pt_cmpR op_gt (pv 4) (pe_fld (pe_fld (pv 0) rfl) rfl) (nomark _)) (pss_one (ps_ret (pe_lst (pa_cons (pe_gi rfl (T.int 89 rfl)) pa_nil)))) pss_nil)
    (pss_cons (ps_set (i := 5) sc_tell_lost.nd rfl (.inl rfl) (pe_callG (ok_board_of T) (hr.mono (by decide)) rfl (T.glo 41 rfl) (pa_cons (pe_fld (pv 0) rfl) (pa_cons (pe_fld (pv 0) rfl) pa_nil))))
    (pss_cons (ps_set (i := 6) sc_tell_lost.nd rfl (.inl rfl) (pe_callG (ok_board_with_rot T) (hr.mono (by decide)) rfl (T.glo 45 rfl) (pa_cons (pv 5) (pa_cons (pe_methG0 (pe_fld (pv 0) rfl) (T.cls 101 rfl) (T.meth 110 rfl) (ok_Stem_foot T) (hr.mono (by decide))) (pa_cons (pv 3) (pa_cons (pv 4) pa_nil))))))
    (pss_one (ps_ret (pe_lst (pa_cons (by exact pe_int) (pa_cons (pe_op op_sub (pe_ix ix_list (pe_callG (ok_most_worths T) (hr.mono (by decide)) rfl (T.glo 47 rfl) (pa_cons (pv 5) pa_nil)) (by exact pe_int) (fun _ _ => rfl)) (pe_ix ix_list (pe_callG (ok_most_worths T) (hr.mono (by decide)) rfl (T.glo 47 rfl) (pa_cons (pv 6) pa_nil)) (by exact pe_int) (fun _ _ => rfl))) pa_nil)))))))))))
theorem pure_tell_lost (T : Txt K mg) (h : sp_tell_lost K vs H Q E) : t_tell_lost K { nx := fun _ H' => Q .non H', rt := Q } (start NL_tell_lost vs) H := by
  obtain ⟨A, S, aW, ws, aR, rs, rfl, hA, hW, hR, hn, hr, k⟩ := h
  match ws, hn with
  | [a, b], _ =>
  refine q_unL (σ' := [some (.ref A.d), some (.ref aW), some (.ref aR), some (.int a), some (.int b), none, none]) (ev_var rfl) hW rfl (fun H' Q q => ⟨_, _, rfl, _, _, rfl, rfl, q⟩) fun H1 e1 => ?_
  have st : Wrtibu.step S (.lost a b) = (S, if Wrtibu.isPart a b = false then TimBase.RANGE else (match S.stem with
    | none => TimBase.NONE
    | some s => if (s.top : Int) < b then TimBase.CANT else [0, (TimBuck.most s S.products : Int) - (TimBuck.most (rotS s a.toNat b.toNat) S.products : Int)])) := rfl
  refine q_when (et_not (et_B (ev_I2 (ev_var rfl) (ev_var rfl)))) (fun hb H2 e2 => k.ret1 hA ?_ (e1.trans e2) rfl) (fun hb H2 e2 => ?_)
  · rw [if_pos (not_t hb)] at st
    exact st
  have hx := not_f hb
  rw [if_neg (by rw [hx]; decide)] at st
  replace e1 := e1.trans e2
  clear hb e2
  refine q_when (et_test (ev_noStem T (ev_var rfl) (hA.mono e1))) (fun hb H3 e3 => k.ret1 hA ?_ (e1.trans e3) rfl) (fun hb H3 e3 => ?_)
  · rw [Option.isNone_iff_eq_none.mp hb] at st
    exact st
  replace e1 := e1.trans e3
  obtain ⟨s, hS⟩ := stem_is hb
  obtain ⟨B, hB, hs⟩ := hA.st_some hS
  rw [hS] at st
  obtain ⟨m, n, rfl, rfl, c1, c2, c3, c4⟩ := isPart_nat hx
  rw [Int.toNat_natCast, Int.toNat_natCast] at st
  refine q_when (et_test (ev_gt (ev_var rfl) (ev_top T (ev_var rfl) (hA.mono e1) hB (hs.mono e1)))) (fun hb H4 e4 => k.ret1 hA (st.trans ?_) (e1.trans e4) rfl) (fun hb H4 e4 => ?_)
  · show (S, if (s.top : Int) < (n : Int) then _ else _) = _
    rw [if_pos (of_decide_eq_true hb)]
    rfl
  have hle := of_decide_eq_false hb
  replace e1 := e1.trans e4
  have c := hA.ctx hs
  have hc : Cells s m n := ⟨c1, c2, c3, by omega⟩
  have ok := boardL_ok c
  have cr : Ctx (rotS s m n) S.products := rot_ctx c
  have okr := boardL_ok cr
  refine q_asgX (ex_board T (ev_var rfl) (hA.mono e1) hB (hs.mono e1)) fun v H5 e5 hv => ?_
  obtain ⟨aB, rfl, hfB, hBd⟩ := hv
  replace e1 := e1.trans e5
  refine q_asgX (X := isB K (boardL (rotS s m n) S.products)) (ex_call (ea_cons (ev_var rfl) (ea_cons (ev_S0 (evD_st T (ev_var rfl) (hA.mono e1) hB) (hs.mono e1) (stF_no (by decide +kernel))) (ea_cons (ev_var rfl) (ea_cons (ev_var rfl) ea_nil)))) (fun H6 e6 Q' q => ⟨aB, boardL s S.products, s.foot, m, n, rfl, hBd.mono e6, ok, by
    rw [rot_board c hc]
    exact isB_of q⟩) isB_mono) fun v H6 e6 hv => ?_
  obtain ⟨aO, rfl, hfO, hBo⟩ := hv
  refine k.ret (out := [0, (TimBuck.most s S.products : Int) - (TimBuck.most (rotS s m n) S.products : Int)]) hA (el_lst (ea_cons ev_c (ea_cons (ev_sub (ev_most0 (ev_var rfl) (hBd.mono e6) ok) (ev_most0 (ev_var rfl) hBo okr)) ea_nil)) (by show 2 ≤ 100000; decide)) (st.trans ?_) ?_ (e1.trans e6) rfl
  · show (S, if (s.top : Int) < (n : Int) then _ else _) = _
    rw [if_neg hle]
  · rw [rowB_is c, rowB_is cr]
    rfl
theorem ok_tell_lost (T : Txt K mg) : Good P w K mg base ("tell_lost", none) 5 ["desk", "wholes", "row"] (sp_tell_lost K) :=
  good_mk (d := d_tell_lost) T 81 rfl rfl rfl sc_tell_lost (fun vs H Q E h => len_tell_lost h) (fun _ _ _ _ _ _ us hl => match us, hl with | [_, _, _], _ => rfl) (fun cdv A outer s H E hr => w_tell_lost T cdv A outer s H E hr) (fun vs H Q E h => pure_tell_lost T h)
abbrev sp_tell_without (K : PySem.W.Frag) : Sp := spDeed K 1 fun ws _ => .without_ (ws.getD 0 0)
theorem len_tell_without (h : sp_tell_without K vs H Q E) : vs.length = 3 := spDeed_len h
abbrev NL_tell_without : List Str := ["desk", "wholes", "row", "k", "board", "others"]
theorem sc_tell_without : FnScope NL_tell_without ["desk", "wholes", "row"] (defScope s_tell_without) := ⟨rfl, rfl, rfl, by decide +kernel, rfl, by decide +kernel, by decide +kernel⟩
def t_tell_without (K : PySem.W.Frag) : TS := (tSeq (tAsg (tOp (rIxL K) (tVar 1) (tC (.int 0))) (gName 3))
    (tSeq (tIfS (tNot (tB (tCall (sp_is_product_number K) [] E0 (tCons (tVar 3) tNil)))) (tRet (tLst (tCons (tC (.int (-1))) tNil))) tNext)
    (tSeq (tIfS (tB (tMeth (He.ga K "Desk") "lacks" (sp_Desk_lacks K) [] E0 (tVar 0) (tCons (tVar 3) tNil))) (tRet (tLst (tCons (tC (.int (-3))) tNil))) tNext)
    (tSeq (tAsg (tCall (sp_board_of K) [] E0 (tCons (tFld K (tVar 0) "stem") (tCons (tFld K (tVar 0) "products") tNil))) (gName 4))
    (tSeq (tAsg (tCall (sp_board_without_product K) [] E0 (tCons (tVar 4) (tCons (tVar 3) tNil))) (gName 5))
    (tRet (tLst (tCons (tC (.int 0)) (tCons (tOp (rI0 fun i j => .int (i - j)) (tOp (rIxL K) (tCall (sp_most_worths K) [] E0 (tCons (tVar 4) tNil)) (tC (.int 0))) (tOp (rIxL K) (tCall (sp_most_worths K) [] E0 (tCons (tVar 5) tNil)) (tC (.int 0)))) tNil)))))))))
theorem w_tell_without (T : Txt K mg) (cdv : Value) (A : Around) (outer : List Env) (s : Shared) (H : Hp) (E : XK) (hr : Room 4 (A.deeper (envOfC "tell_without" (defScope s_tell_without) s.heap.objs.size (He.fAd K ("tell_without", none)) cdv))) :
    PSs (cxOf CX0 P w K mg base NL_tell_without "tell_without" (defScope s_tell_without) (He.fAd K ("tell_without", none)) cdv A outer s H E).nox (defBody s_tell_without) (t_tell_without K) := by
  exact (pss_cons (ps_set (i := 3) sc_tell_without.nd rfl (.inl rfl) (pe_ix ix_list (pv 1) (by exact pe_int) (fun _ _ => rfl)))
    (pss_cons (ps_if (pt_not (pt_val (pe_callG (ok_is_product_number T) (hr.mono (by decide)) rfl (T.glo 7 rfl) (pa_cons (pv 3) pa_nil)))) (pss_one (ps_ret (pe_lst (pa_cons (pe_gi rfl (T.int 87 rfl)) pa_nil)))) pss_nil)
    (pss_cons (ps_if (pt_val (pe_methG (pv 0) (T.cls 134 rfl) (T.meth 142 rfl) (ok_Desk_lacks T) (hr.mono (by decide)) (pa_cons (pv 3) pa_nil))) (pss_one (ps_ret (pe_lst (pa_cons (pe_gi rfl (T.int 88 rfl)) pa_nil)))) pss_nil)
    (pss_cons (ps_set (i := 4) sc_tell_without.nd rfl (.inl rfl) (pe_callG (ok_board_of T) (hr.mono (by decide)) rfl (T.glo 41 rfl) (pa_cons (pe_fld (pv 0) rfl) (pa_cons (pe_fld (pv 0) rfl) pa_nil))))
    (pss_cons (ps_set (i := 5) sc_tell_without.nd rfl (.inl rfl) (pe_callG (ok_board_without_product T) (hr.mono (by decide)) rfl (T.glo 43 rfl) (pa_cons (pv 4) (pa_cons (pv 3) pa_nil))))
    (pss_one (ps_ret (pe_lst (pa_cons (by exact pe_int) (pa_cons (pe_op op_sub (pe_ix ix_list (pe_callG (ok_most_worths T) (hr.mono (by decide)) rfl (T.glo 47 rfl) (pa_cons (pv 4) pa_nil)) (by exact pe_int) (fun _ _ => rfl)) (pe_ix ix_list (pe_callG (ok_most_worths T) (hr.mono (by decide)) rfl (T.glo 47 rfl) (pa_cons (pv 5) pa_nil)) (by exact pe_int) (fun _ _ => rfl))) pa_nil))))))))))
theorem pure_tell_without (T : Txt K mg) (h : sp_tell_without K vs H Q E) : t_tell_without K { nx := fun _ H' => Q .non H', rt := Q } (start NL_tell_without vs) H := by
  obtain ⟨A, S, aW, ws, aR, rs, rfl, hA, hW, hR, hn, hr, k⟩ := h
  match ws, hn with
  | [x], _ =>
  have st : Wrtibu.step S (.without_ x) = (S, if Wrtibu.isProduct x = false then TimBase.RANGE else Wrtibu.onBoth S x fun s _ => [0, (TimBuck.most s S.products : Int) - (TimBuck.most s (S.products.set x.toNat none) : Int)]) := rfl
  refine q_asg (ev_ixL (ev_var rfl) ev_c hW rfl) fun H1 e1 => ?_
  refine q_when (et_not (et_B (ev_I1 (ev_var rfl)))) (fun hb H3 e3 => k.ret1 hA ?_ (e1.trans e3) rfl) (fun hb H3 e3 => ?_)
  · rw [if_pos (not_t hb)] at st
    exact st
  have h1 := not_f hb
  rw [if_neg (by rw [h1]; decide)] at st
  replace e1 := e1.trans e3
  clear hb e3
  obtain ⟨kn, rfl, hk⟩ := isProduct_nat h1
  rw [Int.toNat_natCast] at st
  refine q_when (et_B (ev_lacks (ev_var rfl) (hA.mono e1) (ev_var rfl) hk)) (fun hb H3 e3 => k.ret1 hA ?_ (e1.trans e3) rfl) (fun hb H3 e3 => ?_)
  · refine st.trans ?_
    rw [onBoth_lacks hb]
  replace e1 := e1.trans e3
  obtain ⟨s, p, hS, hp⟩ := lacks_not hb
  obtain ⟨B, hB, hs⟩ := hA.st_some hS
  rw [onBoth_both hS hp] at st
  have c := hA.ctx hs
  have ok := boardL_ok c
  have cw := wo_ctx c hk
  have okw := boardL_ok cw
  refine q_asgX (ex_board T (ev_var rfl) (hA.mono e1) hB (hs.mono e1)) fun v H5 e5 hv => ?_
  obtain ⟨aB, rfl, hfB, hBd⟩ := hv
  replace e1 := e1.trans e5
  refine q_asgX (X := isB K (boardL s (S.products.set kn none))) (ex_call (ea_cons (ev_var rfl) (ea_cons (ev_var rfl) ea_nil)) (fun H6 e6 Q' q => ⟨aB, boardL s S.products, (kn : Int), rfl, hBd.mono e6, ok, by
    rw [wo_board c hk]
    exact isB_of q⟩) isB_mono) fun v H6 e6 hv => ?_
  obtain ⟨aO, rfl, hfO, hBo⟩ := hv
  refine k.ret (out := [0, (TimBuck.most s S.products : Int) - (TimBuck.most s (S.products.set kn none) : Int)]) hA (el_lst (ea_cons ev_c (ea_cons (ev_sub (ev_most0 (ev_var rfl) (hBd.mono e6) ok) (ev_most0 (ev_var rfl) hBo okw)) ea_nil)) (by show 2 ≤ 100000; decide)) st ?_ (e1.trans e6) rfl
  rw [rowB_is c, rowB_is cw]
  rfl
theorem ok_tell_without (T : Txt K mg) : Good P w K mg base ("tell_without", none) 5 ["desk", "wholes", "row"] (sp_tell_without K) :=
  good_mk (d := d_tell_without) T 82 rfl rfl rfl sc_tell_without (fun vs H Q E h => len_tell_without h) (fun _ _ _ _ _ _ us hl => match us, hl with | [_, _, _], _ => rfl) (fun cdv A outer s H E hr => w_tell_without T cdv A outer s H E hr) (fun vs H Q E h => pure_tell_without T h)
end
end Sb
end
section
set_option maxHeartbeats 4000000
namespace Sb
open TimBuck (Stem Product Piece Log greater)
/-! ## counted ways: the program's rows are the specification's -/
def enc : Option Nat → Int
  | none => -1
  | some v => (v : Int)
theorem greater_comm (a b : Option Nat) : greater a b = greater b a := by
  cases a <;> cases b <;> first | rfl | (show some (max _ _) = some (max _ _); rw [Nat.max_comm])
theorem greater_assoc (a b c : Option Nat) : greater (greater a b) c = greater a (greater b c) := by
  cases a <;> cases b <;> cases c <;> first | rfl | (show some (max (max _ _) _) = some (max _ (max _ _)); rw [Nat.max_assoc])
theorem greater_none (a : Option Nat) : greater none a = a := by cases a <;> rfl
theorem greater_some {a b : Option Nat} (h : a ≠ none ∨ b ≠ none) : greater a b ≠ none := by
  cases a <;> cases b <;> rcases h with h | h <;> first | exact absurd rfl h | (intro z; cases z)
theorem greater_or {a b : Option Nat} (h : greater a b ≠ none) : a ≠ none ∨ b ≠ none := by
  cases a with
  | none =>
    rw [greater_none] at h
    exact .inr h
  | some v => exact .inl (fun z => by cases z)
theorem fold_greater (t : Log → Option Nat) : ∀ (l : List Log) (a : Option Nat), l.foldl (fun m x => greater m (t x)) a = greater (l.foldl (fun m x => greater m (t x)) none) a
  | [], a => (greater_none a).symm
  | x :: l, a => by
    rw [List.foldl_cons, List.foldl_cons, fold_greater t l (greater a (t x)), fold_greater t l (greater none (t x)), greater_none, greater_assoc, greater_comm (t x) a]
theorem fold_some (t : Log → Option Nat) : ∀ {l : List Log} {a : Option Nat}, (a ≠ none ∨ ∃ x ∈ l, t x ≠ none) → l.foldl (fun m x => greater m (t x)) a ≠ none
  | [], a, h => by
    rcases h with h | ⟨x, hx, _⟩
    · exact h
    · exact absurd hx List.not_mem_nil
  | y :: l, a, h => by
    rw [List.foldl_cons]
    refine fold_some t ?_
    rcases h with h | ⟨x, hx, h⟩
    · exact .inl (greater_some (.inl h))
    · rcases List.mem_cons.mp hx with rfl | hx
      · exact .inl (greater_some (.inr h))
      · exact .inr ⟨x, hx, h⟩
theorem fold_or (t : Log → Option Nat) : ∀ {l : List Log} {a : Option Nat}, l.foldl (fun m x => greater m (t x)) a ≠ none → a ≠ none ∨ ∃ x ∈ l, t x ≠ none
  | [], a, h => .inl h
  | y :: l, a, h => by
    rw [List.foldl_cons] at h
    rcases fold_or t h with h | ⟨x, hx, h⟩
    · rcases greater_or h with h | h
      · exact .inl h
      · exact .inr ⟨y, List.mem_cons_self .., h⟩
    · exact .inr ⟨x, List.mem_cons_of_mem _ hx, h⟩
section
variable {s : Stem} {ps : TimBuck.Products} {k : Nat}
/-- the most with just c logs, from so many tens below the top -/
def dc (s : Stem) (ps : TimBuck.Products) (k m c : Nat) : Option Nat := ((TimBuck.countedFrom s ps k m).headD []).getD c none
/-- what a log brings at a count -/
def tmc (s : Stem) (ps : TimBuck.Products) (k m c : Nat) (x : Log) : Option Nat := if x.product = k then (if c = 0 then none else (dc s ps k (m + 1 - x.takes / 10) (c - 1)).map fun w => w + x.worth) else (dc s ps k (m + 1 - x.takes / 10) c).map fun w => w + x.worth
theorem cf_get : ∀ (m j : Nat), j ≤ m → (TimBuck.countedFrom s ps k m).getD j [] = (TimBuck.countedFrom s ps k (m - j)).headD []
  | 0, j, h => by
    have : j = 0 := by omega
    subst this
    rfl
  | m + 1, 0, _ => rfl
  | m + 1, j + 1, h => by
    have ih := cf_get m j (by omega)
    rw [show m + 1 - (j + 1) = m - j by omega, ← ih]
    rfl
theorem logs_tens (c : Ctx s ps) {m : Nat} (hm : m + 1 ≤ tens s) {x : Log} (hx : x ∈ TimBuck.logsAt s ps (s.top - 10 * (m + 1))) : 10 ≤ x.takes / 10 ∧ x.takes / 10 ≤ m + 1 := by
  have n := c.nums
  obtain ⟨p, _, _, _, h1, h2, h3, h4, _⟩ := log_fact c hx
  omega
theorem fold_term {f g : Option Nat → Log → Option Nat} : ∀ {l : List Log} {a : Option Nat}, (∀ x ∈ l, ∀ a, f a x = g a x) → l.foldl f a = l.foldl g a
  | [], _, _ => rfl
  | x :: l, a, h => by
    rw [List.foldl_cons, List.foldl_cons, h x (List.mem_cons_self ..)]
    exact fold_term fun y hy => h y (List.mem_cons_of_mem _ hy)
theorem dc_row (c : Ctx s ps) {m : Nat} (hm : m + 1 ≤ tens s) (i : Nat) : dc s ps k (m + 1) i = if i < m / 10 + 2 then (TimBuck.logsAt s ps (s.top - 10 * (m + 1))).foldl (fun a x => greater a (tmc s ps k m i x)) (dc s ps k m i) else none := by
  show (((List.range (m / 10 + 2)).map fun (c : Nat) => (TimBuck.logsAt s ps (s.top - 10 * (m + 1))).foldl (fun (a : Option Nat) (x : Log) => greater a (if x.product = k then (if c = 0 then none else (((TimBuck.countedFrom s ps k m).getD (x.takes / 10 - 1) []).getD (c - 1) none).map fun (w : Nat) => w + x.worth) else (((TimBuck.countedFrom s ps k m).getD (x.takes / 10 - 1) []).getD c none).map fun (w : Nat) => w + x.worth)) (((TimBuck.countedFrom s ps k m).getD 0 []).getD c none))).getD i none = _
  rw [List.getD_eq_getElem?_getD, List.getElem?_map]
  by_cases h : i < m / 10 + 2
  · rw [List.getElem?_range h, if_pos h]
    show (TimBuck.logsAt s ps (s.top - 10 * (m + 1))).foldl _ _ = _
    rw [cf_get m 0 (Nat.zero_le _)]
    refine fold_term fun x hx a => ?_
    obtain ⟨t1, t2⟩ := logs_tens c hm hx
    rw [cf_get m (x.takes / 10 - 1) (by omega), show m - (x.takes / 10 - 1) = m + 1 - x.takes / 10 by omega]
    rfl
  · rw [List.getElem?_eq_none (by rw [List.length_range]; omega), if_neg h]
    rfl
theorem dc_zero (i : Nat) : dc s ps k 0 i = if i = 0 then some 0 else none := by
  cases i <;> rfl
theorem dc_none (c : Ctx s ps) : ∀ (m i : Nat), m ≤ tens s → m / 10 < i → dc s ps k m i = none := by
  intro m
  induction m using Nat.strongRecOn with
  | ind m ih =>
    intro i hm hi
    cases m with
    | zero =>
      rw [dc_zero, if_neg (by omega)]
    | succ m =>
      rw [dc_row c hm]
      split
      · cases hz : (TimBuck.logsAt s ps (s.top - 10 * (m + 1))).foldl (fun a x => greater a (tmc s ps k m i x)) (dc s ps k m i) with
        | none => rfl
        | some v =>
          rcases fold_or (fun x => tmc s ps k m i x) (by rw [hz]; intro z; cases z) with h | ⟨x, hx, h⟩
          · exact absurd (ih m (by omega) i (by omega) (by omega)) h
          · obtain ⟨t1, t2⟩ := logs_tens c hm hx
            refine absurd ?_ h
            unfold tmc
            have z1 := ih (m + 1 - x.takes / 10) (by omega) i (by omega) (by omega)
            split
            · split
              · rfl
              · rw [ih (m + 1 - x.takes / 10) (by omega) (i - 1) (by omega) (by omega)]
                rfl
            · rw [z1]
              rfl
      · rfl
theorem dc_succ (c : Ctx s ps) {m : Nat} (hm : m + 1 ≤ tens s) (i : Nat) : dc s ps k (m + 1) i = (TimBuck.logsAt s ps (s.top - 10 * (m + 1))).foldl (fun a x => greater a (tmc s ps k m i x)) (dc s ps k m i) := by
  rw [dc_row c hm]
  split
  · rfl
  · rename_i h
    cases hz : (TimBuck.logsAt s ps (s.top - 10 * (m + 1))).foldl (fun a x => greater a (tmc s ps k m i x)) (dc s ps k m i) with
    | none => rfl
    | some v =>
      rcases fold_or (fun x => tmc s ps k m i x) (by rw [hz]; intro z; cases z) with h' | ⟨x, hx, h'⟩
      · exact absurd (dc_none c m i (by omega) (by omega)) h'
      · obtain ⟨t1, t2⟩ := logs_tens c hm hx
        refine absurd ?_ h'
        unfold tmc
        split
        · split
          · rfl
          · rw [dc_none c (m + 1 - x.takes / 10) (i - 1) (by omega) (by omega)]
            rfl
        · rw [dc_none c (m + 1 - x.takes / 10) i (by omega) (by omega)]
          rfl
theorem dc_first (c : Ctx s ps) : ∀ m, m ≤ tens s → dc s ps k m 0 ≠ none
  | 0, _ => fun z => by
    rw [dc_zero] at z
    cases z
  | m + 1, h => by
    rw [dc_succ c h]
    exact fold_some _ (.inl (dc_first c m (by omega)))
theorem dc_keep (c : Ctx s ps) {i : Nat} : ∀ {m m' : Nat}, m ≤ m' → m' ≤ tens s → dc s ps k m i ≠ none → dc s ps k m' i ≠ none := by
  intro m m' h1 h2 h
  induction m' with
  | zero =>
    have : m = 0 := by omega
    subst this
    exact h
  | succ m' ih =>
    by_cases e : m = m' + 1
    · subst e
      exact h
    · rw [dc_succ c h2]
      exact fold_some _ (.inl (ih (by omega) (by omega)))
/-! ## the program's steps -/
theorem step_log {g : Nat → Nat → Int} {m i : Nat} {x : Log} (acc : Option Nat) (h1 : i ≠ 0 → g (x.takes / 10) (i - 1) = enc (dc s ps k (m + 1 - x.takes / 10) (i - 1))) (h2 : g (x.takes / 10) i = enc (dc s ps k (m + 1 - x.takes / 10) i)) :
    mwStep g (k : Int) i (enc acc) (.log x) = enc (greater acc (tmc s ps k m i x)) := by
  have up : ∀ d : Option Nat, mwUp (enc acc) (.log x) (enc d) = enc (greater acc (d.map fun w => w + x.worth)) := fun d => by
    unfold mwUp
    cases d with
    | none =>
      rw [if_neg (by show ¬ (0 : Int) ≤ -1; omega)]
      cases acc <;> rfl
    | some v =>
      rw [if_pos (by show (0 : Int) ≤ (v : Int); omega)]
      cases acc with
      | none =>
        show (if (x.worth : Int) + (v : Int) > -1 then (x.worth : Int) + (v : Int) else -1) = ((v + x.worth : Nat) : Int)
        rw [if_pos (by omega)]
        omega
      | some a =>
        show (if (x.worth : Int) + (v : Int) > (a : Int) then (x.worth : Int) + (v : Int) else (a : Int)) = ((max a (v + x.worth) : Nat) : Int)
        split <;> omega
  unfold mwStep tmc
  have ek : (kS (.log x) = (k : Int)) ↔ x.product = k := by
    show (x.product : Int) = (k : Int) ↔ _
    omega
  by_cases c : x.product = k
  · rw [if_pos (ek.mpr c), if_pos c]
    by_cases c0 : i = 0
    · rw [if_pos c0, if_pos c0]
      cases acc <;> rfl
    · rw [if_neg c0, if_neg c0]
      show mwUp (enc acc) (.log x) (g (x.takes / 10) (i - 1)) = _
      rw [h1 c0]
      exact up _
  · rw [if_neg (fun z => c (ek.mp z)), if_neg c]
    show mwUp (enc acc) (.log x) (g (x.takes / 10) i) = _
    rw [h2]
    exact up _
theorem step_waste {g : Nat → Nat → Int} {i : Nat} (acc d : Option Nat) (h : g 1 i = enc d) : mwStep g (k : Int) i (enc acc) .waste = enc (greater acc d) := by
  unfold mwStep
  rw [if_neg (by show ¬ (-1 : Int) = (k : Int); omega)]
  show mwUp (enc acc) .waste (g 1 i) = _
  rw [h]
  unfold mwUp
  cases d with
  | none =>
    rw [if_neg (by show ¬ (0 : Int) ≤ -1; omega)]
    cases acc <;> rfl
  | some v =>
    rw [if_pos (by show (0 : Int) ≤ (v : Int); omega)]
    cases acc with
    | none =>
      show (if ((0 : Nat) : Int) + (v : Int) > -1 then ((0 : Nat) : Int) + (v : Int) else -1) = (v : Int)
      rw [if_pos (by omega)]
      omega
    | some a =>
      show (if ((0 : Nat) : Int) + (v : Int) > (a : Int) then ((0 : Nat) : Int) + (v : Int) else (a : Int)) = ((max a v : Nat) : Int)
      split <;> omega
theorem mw_is (c : Ctx s ps) {m i : Nat} (hm : m + 1 ≤ tens s) {g : Nat → Nat → Int} (hg : ∀ j i', 1 ≤ j → j ≤ m + 1 → i' ≤ i → g j i' = enc (dc s ps k (m + 1 - j) i')) : mw g (k : Int) i (stepsAt s ps (s.top - 10 * (m + 1))) = enc (dc s ps k (m + 1) i) := by
  have n := c.nums
  unfold mw stepsAt
  rw [if_pos (by omega), List.foldl_append, dc_succ c hm, fold_greater]
  have h : ∀ (l : List Log) (acc : Option Nat), (∀ x ∈ l, x ∈ TimBuck.logsAt s ps (s.top - 10 * (m + 1))) → (l.map TimBuck.Step.log).foldl (mwStep g (k : Int) i) (enc acc) = enc (l.foldl (fun a x => greater a (tmc s ps k m i x)) acc) := by
    intro l
    induction l with
    | nil => intro acc _; rfl
    | cons x l ih =>
      intro acc hl
      obtain ⟨t1, t2⟩ := logs_tens c hm (hl x (List.mem_cons_self ..))
      rw [List.map_cons, List.foldl_cons, List.foldl_cons, step_log (s := s) (ps := ps) (m := m) acc (fun _ => hg _ _ (by omega) t2 (by omega)) (hg _ _ (by omega) t2 (Nat.le_refl _))]
      exact ih _ fun y hy => hl y (List.mem_cons_of_mem _ hy)
  have z := h (TimBuck.logsAt s ps (s.top - 10 * (m + 1))) none fun x hx => hx
  rw [show enc none = -1 from rfl] at z
  rw [z]
  exact step_waste (k := k) _ _ (hg 1 i (Nat.le_refl _) (by omega) (Nat.le_refl _))
theorem countB_drop {L : Nat} {k' : Int} {b : List (List TimBuck.Step)} : ∀ {j : Nat}, j < b.length → (countB L k' b).drop j = countB L k' (b.drop j)
  | 0, _ => rfl
  | j + 1, h => by
    rw [← List.tail_drop, countB_drop (j := j) (by omega), countB_cons (List.getElem?_eq_getElem (show j < b.length by omega)) h]
    rfl
theorem get2_drop {L : Nat} {k' : Int} {b : List (List TimBuck.Step)} {j i : Nat} (h : j < b.length) : get2 (countB L k' b) j i = ((countB L k' (b.drop j)).headD []).getD i (-1) := by
  unfold get2
  rw [← countB_drop h]
  congr 1
  rw [List.getD_eq_getElem?_getD, List.headD_eq_head?_getD, List.head?_drop]
theorem count_row (c : Ctx s ps) {L : Nat} : ∀ (m : Nat), m ≤ tens s → (countB L (k : Int) ((boardL s ps).drop (tens s - m))).headD [] = (List.range (L + 1)).map fun i => enc (dc s ps k m i) := by
  have hbl : (boardL s ps).length = tens s + 1 := boardL_len
  have n := c.nums
  intro m
  induction m using Nat.strongRecOn with
  | ind m ih =>
    intro hm
    cases m with
    | zero =>
      rw [Nat.sub_zero, List.drop_eq_getElem_cons (by omega), show tens s + 1 = (boardL s ps).length by omega, List.drop_length]
      show 0 :: List.replicate L (-1) = _
      rw [List.range_succ_eq_map, List.map_cons, List.map_map]
      congr 1
      apply List.ext_getElem?
      intro i
      rw [List.getElem?_map]
      by_cases h : i < L
      · rw [List.getElem?_range h, List.getElem?_replicate, if_pos h]
        rfl
      · rw [List.getElem?_eq_none (by rw [List.length_replicate]; omega), List.getElem?_eq_none (by rw [List.length_range]; omega)]
        rfl
    | succ m =>
      have hg := boardL_get (s := s) (ps := ps) (i := tens s - (m + 1)) (by omega)
      rw [countB_cons hg (by omega)]
      show (List.range (L + 1)).map _ = _
      apply List.map_congr_left
      intro i hi
      have hi' := List.mem_range.mp hi
      rw [show s.foot + 10 * (tens s - (m + 1)) = s.top - 10 * (m + 1) by omega]
      refine mw_is c hm fun j i' h1 h2 h3 => ?_
      rw [get2_drop (by rw [List.length_drop]; omega), List.drop_drop, show tens s - (m + 1) + 1 + (j - 1) = tens s - (m + 1 - j) by omega, ih (m + 1 - j) (by omega) (by omega), List.getD_eq_getElem?_getD, List.getElem?_map, List.getElem?_range (by omega)]
      rfl
theorem count_top (c : Ctx s ps) {L : Nat} : (countB L (k : Int) (boardL s ps)).headD [] = (List.range (L + 1)).map fun i => enc (dc s ps k (tens s) i) := by
  have z := count_row (k := k) (L := L) c (tens s) (Nat.le_refl _)
  rw [Nat.sub_self] at z
  exact z
/-! ## whether a log of the product fits somewhere -/
theorem dc_has (c : Ctx s ps) : ∀ (m i : Nat), m ≤ tens s → 1 ≤ i → dc s ps k m i ≠ none → ∃ j x, j < m ∧ x ∈ TimBuck.logsAt s ps (s.top - 10 * (j + 1)) ∧ x.product = k := by
  intro m
  induction m using Nat.strongRecOn with
  | ind m ih =>
    intro i hm hi h
    cases m with
    | zero =>
      rw [dc_zero, if_neg (by omega)] at h
      exact absurd rfl h
    | succ m =>
      rw [dc_succ c hm] at h
      rcases fold_or (fun x => tmc s ps k m i x) h with h | ⟨x, hx, h⟩
      · obtain ⟨j, x, h1, h2, h3⟩ := ih m (by omega) i (by omega) hi h
        exact ⟨j, x, by omega, h2, h3⟩
      · obtain ⟨t1, t2⟩ := logs_tens c hm hx
        unfold tmc at h
        by_cases ck : x.product = k
        · exact ⟨m, x, by omega, hx, ck⟩
        · rw [if_neg ck] at h
          have h' : dc s ps k (m + 1 - x.takes / 10) i ≠ none := fun z => by
            rw [z] at h
            exact h rfl
          obtain ⟨j, y, h1, h2, h3⟩ := ih (m + 1 - x.takes / 10) (by omega) i (by omega) hi h'
          exact ⟨j, y, by omega, h2, h3⟩
theorem has_dc (c : Ctx s ps) {j : Nat} {x : Log} (hj : j < tens s) (hx : x ∈ TimBuck.logsAt s ps (s.top - 10 * (j + 1))) (hk : x.product = k) : dc s ps k (tens s) 1 ≠ none := by
  refine dc_keep c (m := j + 1) (by omega) (Nat.le_refl _) ?_
  rw [dc_succ c (by omega)]
  refine fold_some _ (.inr ⟨x, hx, ?_⟩)
  obtain ⟨t1, t2⟩ := logs_tens c (by omega) hx
  unfold tmc
  rw [if_pos hk, if_neg (by decide)]
  have := dc_first (k := k) c (j + 1 - x.takes / 10) (by omega)
  show (dc s ps k (j + 1 - x.takes / 10) 0).map _ ≠ none
  cases hz : dc s ps k (j + 1 - x.takes / 10) 0 with
  | none => exact absurd hz this
  | some v => exact fun z => by cases z
theorem hasK_iff (c : Ctx s ps) : hasK (k : Int) (boardL s ps) = true ↔ dc s ps k (tens s) 1 ≠ none := by
  have n := c.nums
  unfold hasK
  rw [List.any_eq_true]
  constructor
  · rintro ⟨l, hl, h⟩
    obtain ⟨y, hy, hk⟩ := List.any_eq_true.mp h
    obtain ⟨i, hi⟩ := List.getElem?_of_mem hl
    have hi1 := (List.getElem?_eq_some_iff.mp hi).1
    rw [boardL_len] at hi1
    rw [boardL_get (by omega)] at hi
    cases hi
    unfold stepsAt at hy
    rcases List.mem_append.mp hy with hy | hy
    · obtain ⟨x, hx, rfl⟩ := List.mem_map.mp hy
      have hxk : x.product = k := by
        have : (x.product : Int) = (k : Int) := eq_of_beq hk
        omega
      obtain ⟨p, _, _, _, h1, h2, h3, h4, _⟩ := log_fact c hx
      refine has_dc c (j := tens s - i - 1) (by omega) ?_ hxk
      rw [show s.top - 10 * (tens s - i - 1 + 1) = s.foot + 10 * i by omega]
      exact hx
    · split at hy
      · rcases List.mem_cons.mp hy with rfl | hy
        · have : (-1 : Int) = (k : Int) := eq_of_beq hk
          omega
        · exact absurd hy List.not_mem_nil
      · exact absurd hy List.not_mem_nil
  · intro h
    obtain ⟨j, x, h1, h2, h3⟩ := dc_has c (tens s) 1 (Nat.le_refl _) (Nat.le_refl _) h
    refine ⟨stepsAt s ps (s.foot + 10 * (tens s - j - 1)), List.mem_of_getElem? (boardL_get (by omega)), List.any_eq_true.mpr ⟨.log x, ?_, ?_⟩⟩
    · unfold stepsAt
      refine List.mem_append_left _ (List.mem_map.mpr ⟨x, ?_, rfl⟩)
      rw [show s.foot + 10 * (tens s - j - 1) = s.top - 10 * (j + 1) by omega]
      exact h2
    · show ((x.product : Int) == (k : Int)) = true
      rw [h3, beq_iff_eq]
/-! ## the bonus -/
def needN (s : Stem) (ps : TimBuck.Products) (k c v : Nat) : Nat := ((dc s ps k (tens s) 0).getD 0 - v + (c - 1)) / c
theorem bonus_row (c : Ctx s ps) : ∃ w l, (TimBuck.countedFrom s ps k (tens s)).headD [] = w :: l := by
  cases h : tens s with
  | zero => exact ⟨_, _, rfl⟩
  | succ m =>
    show ∃ w l, (List.range (m / 10 + 1 + 1)).map _ = w :: l
    rw [List.range_succ_eq_map, List.map_cons]
    exact ⟨_, _, rfl⟩
theorem bonus_is (c : Ctx s ps) {r : Nat} (h1 : ∃ i v, 1 ≤ i ∧ dc s ps k (tens s) i = some v ∧ r = needN s ps k i v) (h2 : ∀ i v, 1 ≤ i → dc s ps k (tens s) i = some v → r ≤ needN s ps k i v) : TimBuck.bonus s ps k = some r := by
  obtain ⟨w, l, hwl⟩ := bonus_row (k := k) c
  have e0 : dc s ps k (tens s) 0 = w := by
    unfold dc
    rw [hwl]
    rfl
  have e1 : ∀ j, dc s ps k (tens s) (j + 1) = l.getD j none := fun j => by
    unfold dc
    rw [hwl]
    rfl
  unfold TimBuck.bonus
  have e2 : (s.top - s.foot) / 10 = tens s := rfl
  rw [e2, hwl]
  show (l.zipIdx.filterMap fun (x : Option Nat × Nat) => x.1.map fun (v : Nat) => (w.getD 0 - v + x.2) / (x.2 + 1)).min? = some r
  have mem : ∀ y, (y ∈ l.zipIdx.filterMap fun (x : Option Nat × Nat) => x.1.map fun (v : Nat) => (w.getD 0 - v + x.2) / (x.2 + 1)) ↔ ∃ i v, 1 ≤ i ∧ dc s ps k (tens s) i = some v ∧ y = needN s ps k i v := fun y => by
    rw [List.mem_filterMap]
    constructor
    · rintro ⟨⟨o, j⟩, hm, hy⟩
      obtain ⟨v, ho, hy⟩ := Option.map_eq_some_iff.mp hy
      have ho : o = some v := ho
      have hg : l[j]? = some o := List.mem_zipIdx_iff_getElem?.mp hm
      refine ⟨j + 1, v, by omega, ?_, ?_⟩
      · rw [e1, List.getD_eq_getElem?_getD, hg, ho]
        rfl
      · rw [← hy]
        unfold needN
        rw [e0]
        rfl
    · rintro ⟨i, v, hi, hd, rfl⟩
      obtain ⟨j, rfl⟩ : ∃ j, i = j + 1 := ⟨i - 1, by omega⟩
      rw [e1, List.getD_eq_getElem?_getD] at hd
      have hg : l[j]? = some (some v) := by
        cases hz : l[j]? with
        | none =>
          rw [hz] at hd
          cases hd
        | some o =>
          rw [hz] at hd
          exact congrArg some hd
      refine ⟨(some v, j), List.mem_zipIdx_iff_getElem?.mpr hg, ?_⟩
      unfold needN
      rw [e0]
      rfl
  rw [List.min?_eq_some_iff]
  refine ⟨(mem r).mpr h1, fun y hy => ?_⟩
  obtain ⟨i, v, hi, hd, rfl⟩ := (mem y).mp hy
  exact h2 i v hi hd
theorem bonus_none (c : Ctx s ps) (h : dc s ps k (tens s) 1 = none) : TimBuck.bonus s ps k = none := by
  have all : ∀ i, 1 ≤ i → dc s ps k (tens s) i = none := fun i hi => by
    cases hz : dc s ps k (tens s) i with
    | none => rfl
    | some v =>
      obtain ⟨j, x, h1, h2, h3⟩ := dc_has c (tens s) i (Nat.le_refl _) hi (by rw [hz]; intro z; cases z)
      exact absurd h (has_dc c h1 h2 h3)
  obtain ⟨w, l, hwl⟩ := bonus_row (k := k) c
  have e1 : ∀ j, dc s ps k (tens s) (j + 1) = l.getD j none := fun j => by
    unfold dc
    rw [hwl]
    rfl
  unfold TimBuck.bonus
  have e2 : (s.top - s.foot) / 10 = tens s := rfl
  rw [e2, hwl]
  show (l.zipIdx.filterMap fun (x : Option Nat × Nat) => x.1.map fun (v : Nat) => (w.getD 0 - v + x.2) / (x.2 + 1)).min? = none
  rw [List.min?_eq_none_iff, List.filterMap_eq_nil_iff]
  rintro ⟨o, j⟩ hm
  have hg : l[j]? = some o := List.mem_zipIdx_iff_getElem?.mp hm
  have := all (j + 1) (by omega)
  rw [e1, List.getD_eq_getElem?_getD, hg] at this
  have : o = none := this
  rw [this]
  rfl
end
end Sb
end
section
set_option maxHeartbeats 4000000
namespace Sb
open PySem PySem.Spec PySem.Calls PyProof.Rows L2 Evl
open TimBuck (Stem Product Piece diameterIn Log)
def needV (ms : List Int) (c : Nat) : Int := if (ms.getD 0 0 - ms.getD c 0 + (c : Int) - 1) / (c : Int) > 0 then (ms.getD 0 0 - ms.getD c 0 + (c : Int) - 1) / (c : Int) else 0
def needsL (ms : List Int) (n : Nat) : List Int := (List.range n).filterMap fun j => if 0 ≤ ms.getD (j + 1) 0 then some (needV ms (j + 1)) else none
theorem needsL_succ (ms : List Int) (n : Nat) : needsL ms (n + 1) = needsL ms n ++ if 0 ≤ ms.getD (n + 1) 0 then [needV ms (n + 1)] else [] := by
  unfold needsL
  rw [List.range_succ, List.filterMap_append, List.filterMap_cons, List.filterMap_nil]
  by_cases h : 0 ≤ ms.getD (n + 1) 0
  · rw [if_pos h, if_pos h]
  · rw [if_neg h, if_neg h]
theorem mem_needsL {ms : List Int} {n : Nat} {y : Int} : y ∈ needsL ms n ↔ ∃ c, 1 ≤ c ∧ c ≤ n ∧ 0 ≤ ms.getD c 0 ∧ y = needV ms c := by
  unfold needsL
  rw [List.mem_filterMap]
  constructor
  · rintro ⟨j, hj, h⟩
    have := List.mem_range.mp hj
    split at h
    · rename_i h0
      cases h
      exact ⟨j + 1, by omega, by omega, h0, rfl⟩
    · cases h
  · rintro ⟨c, h1, h2, h3, rfl⟩
    refine ⟨c - 1, List.mem_range.mpr (by omega), ?_⟩
    rw [show c - 1 + 1 = c by omega, if_pos h3]
theorem needsL_len (ms : List Int) (n : Nat) : (needsL ms n).length ≤ n := by
  have := List.length_filterMap_le (fun j => if 0 ≤ ms.getD (j + 1) 0 then some (needV ms (j + 1)) else none) (List.range n)
  rw [List.length_range] at this
  exact this
section
variable {P : Program} {w : World} {K : PySem.W.Frag} {mg : Str → Option Value} {base : Heap} {vs : List V} {H : Hp} {Q : VK} {E : XK}
def sp_least_bonus (K : PySem.W.Frag) : Sp := fun vs H Q _ => ∃ (aM : Addr) (ms : List Int), vs = [.ref aM] ∧ SqL K H aM (ms.map V.int) ∧ ms.length ≤ 1000 ∧ (∃ c, 1 ≤ c ∧ c < ms.length ∧ 0 ≤ ms.getD c 0) ∧ ∀ r H', Ex H H' → r ∈ needsL ms (ms.length - 1) → (∀ y ∈ needsL ms (ms.length - 1), r ≤ y) → Q (.int r) H'
theorem len_least_bonus (h : sp_least_bonus K vs H Q E) : vs.length = 1 := by
  obtain ⟨a, b, rfl, _⟩ := h
  rfl
abbrev NL_least_bonus : List Str := ["most", "needs", "count"]
theorem sc_least_bonus : FnScope NL_least_bonus ["most"] (defScope s_least_bonus) := ⟨rfl, rfl, rfl, by decide +kernel, rfl, by decide +kernel, by decide +kernel⟩
def t_least_bonus (K : PySem.W.Frag) : TS := (tSeq (tAsg (tLst tNil) (gName 1))
    (tSeq (tFor (iRng2 (tCons (tC (.int 1)) (tCons (tCB (rLenS K) (tCons (tVar 0) tNil)) tNil))) (gName 2) (tIfS (tTest (tOp (rI0 fun i j => .bl (decide (j ≤ i))) (tOp (rIxL K) (tVar 0) (tVar 2)) (tC (.int 0)))) (tDrop (tBM K "list" rAppend (tVar 1) (tCons (tCB rMax2 (tCons (tC (.int 0)) (tCons (tCall (sp_rounded_up K) [] E0 (tCons (tOp (rI0 fun i j => .int (i - j)) (tOp (rIxL K) (tVar 0) (tC (.int 0))) (tOp (rIxL K) (tVar 0) (tVar 2))) (tCons (tVar 2) tNil))) tNil))) tNil))) tNext))
    (tRet (tCB (rMin K) (tCons (tVar 1) tNil)))))
theorem w_least_bonus (T : Txt K mg) (cdv : Value) (A : Around) (outer : List Env) (s : Shared) (H : Hp) (E : XK) (hr : Room 1 (A.deeper (envOfC "least_bonus" (defScope s_least_bonus) s.heap.objs.size (He.fAd K ("least_bonus", none)) cdv))) :
    PSs (cxOf CX0 P w K mg base NL_least_bonus "least_bonus" (defScope s_least_bonus) (He.fAd K ("least_bonus", none)) cdv A outer s H E).nox (defBody s_least_bonus) (t_least_bonus K) := by
  exact (pss_cons (ps_set (i := 1) sc_least_bonus.nd rfl (.inl rfl) (pe_lst pa_nil))
    (pss_cons (ps_for PassesOwn.never rfl (pi_range2 rfl (T.free 79 rfl) (pa_cons (by exact pe_int) (pa_cons (pe_callB call_len_seq rfl (T.free 78 rfl) (by decide +kernel) (pa_cons (pv 0) pa_nil)) pa_nil))) (pg_name (i := 2) sc_least_bonus.nd rfl (.inl rfl)) (pss_one (ps_if (pt_cmpR op_ge (pe_ix ix_list (pv 0) (pv 2) (fun _ _ => rfl)) (by exact pe_int) (nomark _)) (pss_one (ps_expr (pe_bm PySem.F.plainAttrs_list PySem.F.slot_list_append PySem.F.type_list_append mt_append (pv 1) (pa_cons (pe_callB (call_max2 rfl) rfl (T.free 80 rfl) (by decide +kernel) (pa_cons (by exact pe_int) (pa_cons (pe_callG (ok_rounded_up T) (hr.mono (by decide)) rfl (T.glo 18 rfl) (pa_cons (pe_op op_sub (pe_ix ix_list (pv 0) (by exact pe_int) (fun _ _ => rfl)) (pe_ix ix_list (pv 0) (pv 2) (fun _ _ => rfl))) (pa_cons (pv 2) pa_nil))) pa_nil))) pa_nil)))) pss_nil)))
    (pss_one (ps_ret (pe_callB (cr_min rfl) rfl (T.free 81 rfl) (by decide +kernel) (pa_cons (pv 1) pa_nil))))))
theorem pure_least_bonus (T : Txt K mg) (h : sp_least_bonus K vs H Q E) : t_least_bonus K { nx := fun _ H' => Q .non H', rt := Q } (start NL_least_bonus vs) H := by
  obtain ⟨aM, ms, rfl, hM, hl, ⟨c0, c1, c2, c3⟩, k⟩ := h
  refine q_asgL el_nil fun D H1 hD e1 h1 => ?_
  refine q_forR2 (lo := 1) (n := (ms.length : Int)) (ea_cons ev_c (ea_cons (ev_lenI (ev_var rfl) (ex_l e1 hM)) ea_nil)) (by omega) (fun i σ' H' => ∃ u : Option V, σ' = [some (.ref aM), some (.ref D), u] ∧ Ex H H' ∧ H' D = some (.lst ((needsL ms i).map V.int))) (fun H2 e2 => ⟨none, rfl, e1.trans e2, e2 _ _ h1⟩) ?_ ?_
  · rintro i σ' H' hi ⟨u, rfl, e, h2⟩
    rw [show (1 : Int) + (i : Int) = ((i + 1 : Nat) : Int) by omega]
    show tIfS _ _ _ _ [some (.ref aM), some (.ref D), some (.int ((i + 1 : Nat) : Int))] H'
    have hg := getD_get (ns := ms) (i := i + 1) (by omega)
    have hg0 := getD_get (ns := ms) (i := 0) (by omega)
    have ei : ∀ {H'}, Ex H H' → Ev (tOp (rIxL K) (tVar 0) (tVar 2)) [some (.ref aM), some (.ref D), some (.int ((i + 1 : Nat) : Int))] H' (.int (ms.getD (i + 1) 0)) := fun e => ev_ixL (ev_var rfl) (ev_var rfl) (ex_l e hM) (at_int rfl hg)
    refine s_when (et_test (ev_ge (ei e) ev_c)) (fun hb H3 e3 => ?_) (fun hb H3 e3 => ⟨_, rfl, e.trans e3, ?_⟩)
    · have e' := e.trans e3
      refine s_app (e3 _ _ h2) (ev_var rfl) (ev_max2 ev_c (ev_rounded_up (ev_sub (ev_ixL (ev_var rfl) ev_c (ex_l e' hM) (at_int (n := 0) rfl hg0)) (ei e')) (ev_var rfl) (by omega))) ?_ fun H4 e4 => ⟨_, rfl, Ex.mut (e'.trans e4) hD, ?_⟩
      · have := needsL_len ms i
        rw [List.length_map]
        omega
      · rw [upd_same, needsL_succ, if_pos (of_decide_eq_true hb), List.map_append]
        rfl
    · rw [needsL_succ, if_neg (of_decide_eq_false hb), List.append_nil]
      exact e3 _ _ h2
  · rintro σ' H' ⟨u, rfl, e, h2⟩
    rw [show ((ms.length : Int) - 1).toNat = ms.length - 1 by omega] at h2
    refine ⟨_, rfl, D, needsL ms (ms.length - 1), rfl, sq_of h2, ?_, fun m hm hx => k m H' e hm hx⟩
    exact List.length_pos_iff.mpr (List.ne_nil_of_mem (mem_needsL.mpr ⟨c0, c1, by omega, c3, rfl⟩))
theorem ok_least_bonus (T : Txt K mg) : Good P w K mg base ("least_bonus", none) 2 ["most"] (sp_least_bonus K) :=
  good_mk (d := d_least_bonus) T 79 rfl rfl rfl sc_least_bonus (fun vs H Q E h => len_least_bonus h) (fun _ _ _ _ _ _ us hl => match us, hl with | [_], _ => rfl) (fun cdv A outer s H E hr => w_least_bonus T cdv A outer s H E hr) (fun vs H Q E h => pure_least_bonus T h)
theorem needV_is {s : Stem} {ps : TimBuck.Products} {k : Nat} (c : Ctx s ps) {ms : List Int} (h0 : ms.getD 0 0 = enc (dc s ps k (tens s) 0)) {i v : Nat} (hi : 1 ≤ i) (hv : ms.getD i 0 = (v : Int)) : needV ms i = ((needN s ps k i v : Nat) : Int) := by
  obtain ⟨w, hw⟩ : ∃ w, dc s ps k (tens s) 0 = some w := by
    cases hz : dc s ps k (tens s) 0 with
    | none => exact absurd hz (dc_first c _ (Nat.le_refl _))
    | some w => exact ⟨w, rfl⟩
  unfold needV needN
  rw [h0, hw, hv]
  show (if ((w : Int) - (v : Int) + (i : Int) - 1) / (i : Int) > 0 then ((w : Int) - (v : Int) + (i : Int) - 1) / (i : Int) else 0) = (((w - v + (i - 1)) / i : Nat) : Int)
  by_cases d : v ≤ w
  · have e : (w : Int) - (v : Int) + (i : Int) - 1 = ((w - v + (i - 1) : Nat) : Int) := by omega
    rw [e, ← Int.natCast_ediv]
    generalize (w - v + (i - 1)) / i = z
    split <;> omega
  · have h2 : (w - v + (i - 1)) / i = 0 := Nat.div_eq_of_lt (by omega)
    have h3 : ((w : Int) - (v : Int) + (i : Int) - 1) / (i : Int) ≤ 0 := by
      have : ((w : Int) - (v : Int) + (i : Int) - 1) / (i : Int) < 1 := Int.ediv_lt_of_lt_mul (by omega) (by omega)
      omega
    rw [h2, if_neg (by omega)]
    rfl
/-! ## call 18 -/
abbrev sp_tell_bonus (K : PySem.W.Frag) : Sp := spDeed K 1 fun ws _ => .bonus (ws.getD 0 0)
theorem len_tell_bonus (h : sp_tell_bonus K vs H Q E) : vs.length = 3 := spDeed_len h
abbrev NL_tell_bonus : List Str := ["desk", "wholes", "row", "k", "board"]
theorem sc_tell_bonus : FnScope NL_tell_bonus ["desk", "wholes", "row"] (defScope s_tell_bonus) := ⟨rfl, rfl, rfl, by decide +kernel, rfl, by decide +kernel, by decide +kernel⟩
def t_tell_bonus (K : PySem.W.Frag) : TS := (tSeq (tAsg (tOp (rIxL K) (tVar 1) (tC (.int 0))) (gName 3))
    (tSeq (tIfS (tNot (tB (tCall (sp_is_product_number K) [] E0 (tCons (tVar 3) tNil)))) (tRet (tLst (tCons (tC (.int (-1))) tNil))) tNext)
    (tSeq (tIfS (tB (tMeth (He.ga K "Desk") "lacks" (sp_Desk_lacks K) [] E0 (tVar 0) (tCons (tVar 3) tNil))) (tRet (tLst (tCons (tC (.int (-3))) tNil))) tNext)
    (tSeq (tAsg (tCall (sp_board_of K) [] E0 (tCons (tFld K (tVar 0) "stem") (tCons (tFld K (tVar 0) "products") tNil))) (gName 4))
    (tSeq (tIfS (tNot (tB (tCall (sp_has_logs_of K) [] E0 (tCons (tVar 4) (tCons (tVar 3) tNil))))) (tRet (tLst (tCons (tC (.int (-4))) tNil))) tNext)
    (tRet (tLst (tCons (tC (.int 0)) (tCons (tCall (sp_least_bonus K) [] E0 (tCons (tCall (sp_most_by_logs K) [] E0 (tCons (tVar 4) (tCons (tVar 3) tNil))) tNil)) tNil)))))))))
theorem w_tell_bonus (T : Txt K mg) (cdv : Value) (A : Around) (outer : List Env) (s : Shared) (H : Hp) (E : XK) (hr : Room 4 (A.deeper (envOfC "tell_bonus" (defScope s_tell_bonus) s.heap.objs.size (He.fAd K ("tell_bonus", none)) cdv))) :
    PSs (cxOf CX0 P w K mg base NL_tell_bonus "tell_bonus" (defScope s_tell_bonus) (He.fAd K ("tell_bonus", none)) cdv A outer s H E).nox (defBody s_tell_bonus) (t_tell_bonus K) := by
  exact (pss_cons (ps_set (i := 3) sc_tell_bonus.nd rfl (.inl rfl) (pe_ix ix_list (pv 1) (by exact pe_int) (fun _ _ => rfl)))
    (pss_cons (ps_if (pt_not (pt_val (pe_callG (ok_is_product_number T) (hr.mono (by decide)) rfl (T.glo 7 rfl) (pa_cons (pv 3) pa_nil)))) (pss_one (ps_ret (pe_lst (pa_cons (pe_gi rfl (T.int 87 rfl)) pa_nil)))) pss_nil)
    (pss_cons (ps_if (pt_val (pe_methG (pv 0) (T.cls 134 rfl) (T.meth 142 rfl) (ok_Desk_lacks T) (hr.mono (by decide)) (pa_cons (pv 3) pa_nil))) (pss_one (ps_ret (pe_lst (pa_cons (pe_gi rfl (T.int 88 rfl)) pa_nil)))) pss_nil)
    (pss_cons (ps_set (i := 4) sc_tell_bonus.nd rfl (.inl rfl) (pe_callG (ok_board_of T) (hr.mono (by decide)) rfl (T.glo 41 rfl) (pa_cons (pe_fld (pv 0) rfl) (pa_cons (pe_fld (pv 0) rfl) pa_nil))))
    (pss_cons (ps_if (pt_not (pt_val (pe_callG (ok_has_logs_of T) (hr.mono (by decide)) rfl (T.glo 42 rfl) (pa_cons (pv 4) (pa_cons (pv 3) pa_nil))))) (pss_one (ps_ret (pe_lst (pa_cons (pe_gi rfl (T.int 89 rfl)) pa_nil)))) pss_nil)
    (pss_one (ps_ret (pe_lst (pa_cons (by exact pe_int) (pa_cons (pe_callG (ok_least_bonus T) (hr.mono (by decide)) rfl (T.glo 61 rfl) (pa_cons (pe_callG (ok_most_by_logs T) (hr.mono (by decide)) rfl (T.glo 53 rfl) (pa_cons (pv 4) (pa_cons (pv 3) pa_nil))) pa_nil)) pa_nil))))))))))
theorem pure_tell_bonus (T : Txt K mg) (h : sp_tell_bonus K vs H Q E) : t_tell_bonus K { nx := fun _ H' => Q .non H', rt := Q } (start NL_tell_bonus vs) H := by
  obtain ⟨A, S, aW, ws, aR, rs, rfl, hA, hW, hR, hn, hr, k⟩ := h
  match ws, hn with
  | [x], _ =>
  have st : Wrtibu.step S (.bonus x) = (S, if Wrtibu.isProduct x = false then TimBase.RANGE else Wrtibu.onBoth S x fun s _ => match TimBuck.bonus s S.products x.toNat with
    | none => TimBase.CANT
    | some m => [0, (m : Int)]) := rfl
  refine q_asg (ev_ixL (ev_var rfl) ev_c hW rfl) fun H1 e1 => ?_
  refine q_when (et_not (et_B (ev_I1 (ev_var rfl)))) (fun hb H3 e3 => k.ret1 hA ?_ (e1.trans e3) rfl) (fun hb H3 e3 => ?_)
  · rw [if_pos (not_t hb)] at st
    exact st
  have h1 := not_f hb
  rw [if_neg (by rw [h1]; decide)] at st
  replace e1 := e1.trans e3
  clear hb e3
  obtain ⟨kn, rfl, hk⟩ := isProduct_nat h1
  rw [Int.toNat_natCast] at st
  refine q_when (et_B (ev_lacks (ev_var rfl) (hA.mono e1) (ev_var rfl) hk)) (fun hb H3 e3 => k.ret1 hA ?_ (e1.trans e3) rfl) (fun hb H3 e3 => ?_)
  · refine st.trans ?_
    rw [onBoth_lacks hb]
  replace e1 := e1.trans e3
  obtain ⟨s, p, hS, hp⟩ := lacks_not hb
  obtain ⟨B, hB, hs⟩ := hA.st_some hS
  rw [onBoth_both hS hp] at st
  have c := hA.ctx hs
  have n := c.nums
  have ok := boardL_ok c
  have hbl : (boardL s S.products).length = tens s + 1 := boardL_len
  refine q_asgX (ex_board T (ev_var rfl) (hA.mono e1) hB (hs.mono e1)) fun v H5 e5 hv => ?_
  obtain ⟨aB, rfl, hfB, hBd⟩ := hv
  replace e1 := e1.trans e5
  refine q_when (b := !hasK (kn : Int) (boardL s S.products)) (et_not (et_B (ev_call (ea_cons (ev_var rfl) (ea_cons (ev_var rfl) ea_nil)) fun H6 e6 Q' q _ => ⟨aB, _, (kn : Int), rfl, hBd.mono e6, q⟩))) (fun hb H6 e6 => k.ret1 hA (st.trans ?_) (e1.trans e6) rfl) (fun hb H6 e6 => ?_)
  · have h0 : dc s S.products kn (tens s) 1 = none := by
      cases hz : dc s S.products kn (tens s) 1 with
      | none => rfl
      | some v =>
        have := (hasK_iff (k := kn) c).mpr (by rw [hz]; exact fun z => by cases z)
        rw [this] at hb
        cases hb
    show (S, match TimBuck.bonus s S.products kn with
      | none => TimBase.CANT
      | some m => [0, (m : Int)]) = _
    rw [bonus_none c h0]
    rfl
  have hd := (hasK_iff (k := kn) c).mp (not_f hb)
  obtain ⟨L, hL⟩ : ∃ L, L = ((boardL s S.products).length - 1) / 10 := ⟨_, rfl⟩
  have hLt : L = tens s / 10 := by omega
  obtain ⟨ms, hms⟩ : ∃ ms : List Int, ms = (List.range (L + 1)).map fun i => enc (dc s S.products kn (tens s) i) := ⟨_, rfl⟩
  have hml : ms.length = L + 1 := by rw [hms, List.length_map, List.length_range]
  have hmg : ∀ i, i ≤ L → ms.getD i 0 = enc (dc s S.products kn (tens s) i) := fun i hi => by
    rw [hms, List.getD_eq_getElem?_getD, List.getElem?_map, List.getElem?_range (by omega)]
    rfl
  have hL1 : 1 ≤ L := by
    by_cases z : 1 ≤ L
    · exact z
    · exact absurd (dc_none c (tens s) 1 (Nat.le_refl _) (by omega)) hd
  have hsome : ∀ i, i ≤ L → 0 ≤ ms.getD i 0 → ∃ v, dc s S.products kn (tens s) i = some v ∧ ms.getD i 0 = (v : Int) := fun i hi h => by
    rw [hmg i hi] at h ⊢
    cases hz : dc s S.products kn (tens s) i with
    | none =>
      rw [hz] at h
      exact absurd h (by decide)
    | some v => exact ⟨v, rfl, rfl⟩
  obtain ⟨v1, hv1⟩ : ∃ v, dc s S.products kn (tens s) 1 = some v := by
    cases hz : dc s S.products kn (tens s) 1 with
    | none => exact absurd hz hd
    | some v => exact ⟨v, rfl⟩
  have hfinal : ∀ r : Int, r ∈ needsL ms (ms.length - 1) → (∀ y ∈ needsL ms (ms.length - 1), r ≤ y) → TimBuck.bonus s S.products kn = some r.toNat ∧ r = ((r.toNat : Nat) : Int) := fun r h1 h2 => by
    have h0 := hmg 0 (Nat.zero_le _)
    obtain ⟨i, i1, i2, i3, rfl⟩ := mem_needsL.mp h1
    obtain ⟨v, hv, hv2⟩ := hsome i (by omega) i3
    have hn := needV_is c h0 i1 hv2
    refine ⟨bonus_is c ⟨i, v, i1, hv, by rw [hn]; rfl⟩ fun j u j1 hj => ?_, by rw [hn]; rfl⟩
    have hjL : j ≤ L := by
      by_cases z : j ≤ L
      · exact z
      · rw [dc_none c (tens s) j (Nat.le_refl _) (by omega)] at hj
        cases hj
    have hju : ms.getD j 0 = (u : Int) := by
      rw [hmg j hjL, hj]
      rfl
    have hm : needV ms j ∈ needsL ms (ms.length - 1) := mem_needsL.mpr ⟨j, j1, by omega, by rw [hju]; omega, rfl⟩
    have := h2 _ hm
    rw [needV_is c h0 j1 hju, hn] at this
    rw [hn]
    show needN s S.products kn i v ≤ needN s S.products kn j u
    omega
  have ex1 : EvX (tCall (sp_most_by_logs K) [] E0 (tCons (tVar 4) (tCons (tVar 3) tNil))) [some (.ref A.d), some (.ref aW), some (.ref aR), some (.int (kn : Int)), some (.ref aB)] H6 fun _ v Hq => ∃ p : Addr, v = .ref p ∧ SqL K Hq p (ms.map V.int) :=
    ex_call (ea_cons (ev_var rfl) (ea_cons (ev_var rfl) ea_nil)) (fun H7 e7 Q' q => ⟨aB, _, (kn : Int), rfl, hBd.mono (e6.trans e7), ok, fun p H' e' hp => q _ _ e' ⟨p, rfl, by
      rw [← hL, count_top c, ← hms] at hp
      exact hp⟩⟩) (fun _ _ _ _ _ h => h)
  obtain ⟨r, h1, h2⟩ : ∃ r, r ∈ needsL ms (ms.length - 1) ∧ ∀ y ∈ needsL ms (ms.length - 1), r ≤ y := by
    cases hz : (needsL ms (ms.length - 1)).min? with
    | none =>
      have z := List.min?_eq_none_iff.mp hz
      have m1 : needV ms 1 ∈ needsL ms (ms.length - 1) := mem_needsL.mpr ⟨1, Nat.le_refl _, by omega, by rw [hmg 1 hL1, hv1]; exact Int.natCast_nonneg _, rfl⟩
      rw [z] at m1
      exact absurd m1 List.not_mem_nil
    | some r => exact ⟨r, List.min?_eq_some_iff.mp hz⟩
  obtain ⟨hb1, hb2⟩ := hfinal r h1 h2
  have ev1 : Ev (tCall (sp_least_bonus K) [] E0 (tCons (tCall (sp_most_by_logs K) [] E0 (tCons (tVar 4) (tCons (tVar 3) tNil))) tNil)) [some (.ref A.d), some (.ref aW), some (.ref aR), some (.int (kn : Int)), some (.ref aB)] H6 (.int r) := fun H7 e7 Q' q => ex1 H7 e7 _ fun v H8 e8 ⟨aM, hv, hM⟩ => by
    subst hv
    refine ⟨aM, ms, rfl, hM, by omega, ⟨1, Nat.le_refl _, by omega, by rw [hmg 1 hL1, hv1]; exact Int.natCast_nonneg _⟩, fun r' H9 e9 m1 m2 => ?_⟩
    have e : r' = r := Int.le_antisymm (m2 r h1) (h2 r' m1)
    rw [e]
    exact q H9 (e8.trans e9)
  refine k.ret (out := [0, r]) hA (el_lst (ea_cons ev_c (ea_cons ev1 ea_nil)) (by show 2 ≤ 100000; decide)) (st.trans ?_) rfl (e1.trans e6) rfl
  show (S, match TimBuck.bonus s S.products kn with
    | none => TimBase.CANT
    | some m => [0, (m : Int)]) = _
  rw [hb1]
  show (S, [0, ((r.toNat : Nat) : Int)]) = _
  rw [← hb2]
theorem ok_tell_bonus (T : Txt K mg) : Good P w K mg base ("tell_bonus", none) 5 ["desk", "wholes", "row"] (sp_tell_bonus K) :=
  good_mk (d := d_tell_bonus) T 80 rfl rfl rfl sc_tell_bonus (fun vs H Q E h => len_tell_bonus h) (fun _ _ _ _ _ _ us hl => match us, hl with | [_, _, _], _ => rfl) (fun cdv A outer s H E hr => w_tell_bonus T cdv A outer s H E hr) (fun vs H Q E h => pure_tell_bonus T h)
end
end Sb
end
section
set_option maxHeartbeats 4000000
namespace Sb
open PySem PySem.Spec PySem.Calls PyProof.Rows L2 Evl
/-! ## the list of calls, read -/
/-- a call: its number, its whole numbers, its row -/
structure Cl where
  p : Int
  ws : List Int
  rs : List Int
/-- whether a number has a row -/
def withRow (p : Int) : Bool := ([1, 6, 16, 17] : List Int).any fun i => i == p
def rawC (c : Cl) : List (List Int) := if withRow c.p = true then [c.p :: c.ws, c.rs] else [c.p :: c.ws]
inductive Parse : List Int → List Cl → Prop
  | nil : Parse [] []
  | one {p : Int} {n : Nat} {ws rest : List Int} {cs : List Cl} : PyWrtibu.shape p = some (n, 0) → ws.length = n → Parse rest cs → Parse (p :: (ws ++ rest)) (⟨p, ws, []⟩ :: cs)
  | row {p : Int} {n : Nat} {ws rs rest : List Int} {cs : List Cl} : PyWrtibu.shape p = some (n, 1) → ws.length = n → Parse rest cs → Parse (p :: (ws ++ (rs.length : Int) :: (rs ++ rest))) (⟨p, ws, rs⟩ :: cs)
theorem shape_cases {p : Int} {n k : Nat} (h : PyWrtibu.shape p = some (n, k)) : (p = 1 ∧ n = 0 ∧ k = 1) ∨ (p = 2 ∧ n = 3 ∧ k = 0) ∨ (p = 3 ∧ n = 2 ∧ k = 0) ∨ (p = 4 ∧ n = 2 ∧ k = 0) ∨ (p = 5 ∧ n = 8 ∧ k = 0) ∨ (p = 6 ∧ n = 1 ∧ k = 1) ∨ (p = 7 ∧ n = 1 ∧ k = 0) ∨ (p = 8 ∧ n = 1 ∧ k = 0) ∨ (p = 9 ∧ n = 2 ∧ k = 0) ∨ (p = 10 ∧ n = 2 ∧ k = 0) ∨ (p = 11 ∧ n = 3 ∧ k = 0) ∨ (p = 12 ∧ n = 3 ∧ k = 0) ∨ (p = 13 ∧ n = 0 ∧ k = 0) ∨ (p = 14 ∧ n = 0 ∧ k = 0) ∨ (p = 15 ∧ n = 0 ∧ k = 0) ∨ (p = 16 ∧ n = 0 ∧ k = 1) ∨ (p = 17 ∧ n = 0 ∧ k = 1) ∨ (p = 18 ∧ n = 1 ∧ k = 0) ∨ (p = 19 ∧ n = 2 ∧ k = 0) ∨ (p = 20 ∧ n = 2 ∧ k = 0) ∨ (p = 21 ∧ n = 1 ∧ k = 0) ∨ (p = 22 ∧ n = 0 ∧ k = 0) ∨ (p = 23 ∧ n = 0 ∧ k = 0) ∨ (p = 24 ∧ n = 1 ∧ k = 0) ∨ (p = 25 ∧ n = 0 ∧ k = 0) := by
  by_cases e1 : p = 1
  · subst e1
    have z : some (0, 1) = some (n, k) := h
    cases z
    exact (.inl ⟨rfl, rfl, rfl⟩)
  by_cases e2 : p = 2
  · subst e2
    have z : some (3, 0) = some (n, k) := h
    cases z
    exact (.inr (.inl ⟨rfl, rfl, rfl⟩))
  by_cases e3 : p = 3
  · subst e3
    have z : some (2, 0) = some (n, k) := h
    cases z
    exact (.inr (.inr (.inl ⟨rfl, rfl, rfl⟩)))
  by_cases e4 : p = 4
  · subst e4
    have z : some (2, 0) = some (n, k) := h
    cases z
    exact (.inr (.inr (.inr (.inl ⟨rfl, rfl, rfl⟩))))
  by_cases e5 : p = 5
  · subst e5
    have z : some (8, 0) = some (n, k) := h
    cases z
    exact (.inr (.inr (.inr (.inr (.inl ⟨rfl, rfl, rfl⟩)))))
  by_cases e6 : p = 6
  · subst e6
    have z : some (1, 1) = some (n, k) := h
    cases z
    exact (.inr (.inr (.inr (.inr (.inr (.inl ⟨rfl, rfl, rfl⟩))))))
  by_cases e7 : p = 7
  · subst e7
    have z : some (1, 0) = some (n, k) := h
    cases z
    exact (.inr (.inr (.inr (.inr (.inr (.inr (.inl ⟨rfl, rfl, rfl⟩)))))))
  by_cases e8 : p = 8
  · subst e8
    have z : some (1, 0) = some (n, k) := h
    cases z
    exact (.inr (.inr (.inr (.inr (.inr (.inr (.inr (.inl ⟨rfl, rfl, rfl⟩))))))))
  by_cases e9 : p = 9
  · subst e9
    have z : some (2, 0) = some (n, k) := h
    cases z
    exact (.inr (.inr (.inr (.inr (.inr (.inr (.inr (.inr (.inl ⟨rfl, rfl, rfl⟩)))))))))
  by_cases e10 : p = 10
  · subst e10
    have z : some (2, 0) = some (n, k) := h
    cases z
    exact (.inr (.inr (.inr (.inr (.inr (.inr (.inr (.inr (.inr (.inl ⟨rfl, rfl, rfl⟩))))))))))
  by_cases e11 : p = 11
  · subst e11
    have z : some (3, 0) = some (n, k) := h
    cases z
    exact (.inr (.inr (.inr (.inr (.inr (.inr (.inr (.inr (.inr (.inr (.inl ⟨rfl, rfl, rfl⟩)))))))))))
  by_cases e12 : p = 12
  · subst e12
    have z : some (3, 0) = some (n, k) := h
    cases z
    exact (.inr (.inr (.inr (.inr (.inr (.inr (.inr (.inr (.inr (.inr (.inr (.inl ⟨rfl, rfl, rfl⟩))))))))))))
  by_cases e13 : p = 13
  · subst e13
    have z : some (0, 0) = some (n, k) := h
    cases z
    exact (.inr (.inr (.inr (.inr (.inr (.inr (.inr (.inr (.inr (.inr (.inr (.inr (.inl ⟨rfl, rfl, rfl⟩)))))))))))))
  by_cases e14 : p = 14
  · subst e14
    have z : some (0, 0) = some (n, k) := h
    cases z
    exact (.inr (.inr (.inr (.inr (.inr (.inr (.inr (.inr (.inr (.inr (.inr (.inr (.inr (.inl ⟨rfl, rfl, rfl⟩))))))))))))))
  by_cases e15 : p = 15
  · subst e15
    have z : some (0, 0) = some (n, k) := h
    cases z
    exact (.inr (.inr (.inr (.inr (.inr (.inr (.inr (.inr (.inr (.inr (.inr (.inr (.inr (.inr (.inl ⟨rfl, rfl, rfl⟩)))))))))))))))
  by_cases e16 : p = 16
  · subst e16
    have z : some (0, 1) = some (n, k) := h
    cases z
    exact (.inr (.inr (.inr (.inr (.inr (.inr (.inr (.inr (.inr (.inr (.inr (.inr (.inr (.inr (.inr (.inl ⟨rfl, rfl, rfl⟩))))))))))))))))
  by_cases e17 : p = 17
  · subst e17
    have z : some (0, 1) = some (n, k) := h
    cases z
    exact (.inr (.inr (.inr (.inr (.inr (.inr (.inr (.inr (.inr (.inr (.inr (.inr (.inr (.inr (.inr (.inr (.inl ⟨rfl, rfl, rfl⟩)))))))))))))))))
  by_cases e18 : p = 18
  · subst e18
    have z : some (1, 0) = some (n, k) := h
    cases z
    exact (.inr (.inr (.inr (.inr (.inr (.inr (.inr (.inr (.inr (.inr (.inr (.inr (.inr (.inr (.inr (.inr (.inr (.inl ⟨rfl, rfl, rfl⟩))))))))))))))))))
  by_cases e19 : p = 19
  · subst e19
    have z : some (2, 0) = some (n, k) := h
    cases z
    exact (.inr (.inr (.inr (.inr (.inr (.inr (.inr (.inr (.inr (.inr (.inr (.inr (.inr (.inr (.inr (.inr (.inr (.inr (.inl ⟨rfl, rfl, rfl⟩)))))))))))))))))))
  by_cases e20 : p = 20
  · subst e20
    have z : some (2, 0) = some (n, k) := h
    cases z
    exact (.inr (.inr (.inr (.inr (.inr (.inr (.inr (.inr (.inr (.inr (.inr (.inr (.inr (.inr (.inr (.inr (.inr (.inr (.inr (.inl ⟨rfl, rfl, rfl⟩))))))))))))))))))))
  by_cases e21 : p = 21
  · subst e21
    have z : some (1, 0) = some (n, k) := h
    cases z
    exact (.inr (.inr (.inr (.inr (.inr (.inr (.inr (.inr (.inr (.inr (.inr (.inr (.inr (.inr (.inr (.inr (.inr (.inr (.inr (.inr (.inl ⟨rfl, rfl, rfl⟩)))))))))))))))))))))
  by_cases e22 : p = 22
  · subst e22
    have z : some (0, 0) = some (n, k) := h
    cases z
    exact (.inr (.inr (.inr (.inr (.inr (.inr (.inr (.inr (.inr (.inr (.inr (.inr (.inr (.inr (.inr (.inr (.inr (.inr (.inr (.inr (.inr (.inl ⟨rfl, rfl, rfl⟩))))))))))))))))))))))
  by_cases e23 : p = 23
  · subst e23
    have z : some (0, 0) = some (n, k) := h
    cases z
    exact (.inr (.inr (.inr (.inr (.inr (.inr (.inr (.inr (.inr (.inr (.inr (.inr (.inr (.inr (.inr (.inr (.inr (.inr (.inr (.inr (.inr (.inr (.inl ⟨rfl, rfl, rfl⟩)))))))))))))))))))))))
  by_cases e24 : p = 24
  · subst e24
    have z : some (1, 0) = some (n, k) := h
    cases z
    exact (.inr (.inr (.inr (.inr (.inr (.inr (.inr (.inr (.inr (.inr (.inr (.inr (.inr (.inr (.inr (.inr (.inr (.inr (.inr (.inr (.inr (.inr (.inr (.inl ⟨rfl, rfl, rfl⟩))))))))))))))))))))))))
  by_cases e25 : p = 25
  · subst e25
    have z : some (0, 0) = some (n, k) := h
    cases z
    exact (.inr (.inr (.inr (.inr (.inr (.inr (.inr (.inr (.inr (.inr (.inr (.inr (.inr (.inr (.inr (.inr (.inr (.inr (.inr (.inr (.inr (.inr (.inr (.inr ⟨rfl, rfl, rfl⟩))))))))))))))))))))))))
  unfold PyWrtibu.shape at h
  rw [if_neg e1, if_neg e2, if_neg e3, if_neg e4, if_neg e5, if_neg e6, if_neg e7, if_neg e8, if_neg e9, if_neg e10, if_neg e11, if_neg e12, if_neg e13, if_neg e14, if_neg e15, if_neg e16, if_neg e17, if_neg e18, if_neg e19, if_neg e20, if_neg e21, if_neg e22, if_neg e23, if_neg e24, if_neg e25] at h
  cases h
theorem shape_facts {p : Int} {n k : Nat} (h : PyWrtibu.shape p = some (n, k)) : wholesL.lookup p = some (.int (n : Int)) ∧ withRow p = decide (k = 1) ∧ (k = 0 ∨ k = 1) ∧ n ≤ 8 := by
  rcases shape_cases h with ⟨rfl, rfl, rfl⟩ | ⟨rfl, rfl, rfl⟩ | ⟨rfl, rfl, rfl⟩ | ⟨rfl, rfl, rfl⟩ | ⟨rfl, rfl, rfl⟩ | ⟨rfl, rfl, rfl⟩ | ⟨rfl, rfl, rfl⟩ | ⟨rfl, rfl, rfl⟩ | ⟨rfl, rfl, rfl⟩ | ⟨rfl, rfl, rfl⟩ | ⟨rfl, rfl, rfl⟩ | ⟨rfl, rfl, rfl⟩ | ⟨rfl, rfl, rfl⟩ | ⟨rfl, rfl, rfl⟩ | ⟨rfl, rfl, rfl⟩ | ⟨rfl, rfl, rfl⟩ | ⟨rfl, rfl, rfl⟩ | ⟨rfl, rfl, rfl⟩ | ⟨rfl, rfl, rfl⟩ | ⟨rfl, rfl, rfl⟩ | ⟨rfl, rfl, rfl⟩ | ⟨rfl, rfl, rfl⟩ | ⟨rfl, rfl, rfl⟩ | ⟨rfl, rfl, rfl⟩ | ⟨rfl, rfl, rfl⟩
  all_goals exact ⟨rfl, rfl, by decide, by decide⟩
theorem parse_of : ∀ (f : Nat) (l : List Int) (raw : List (List (List Int))), PyFlat.calls PyWrtibu.shape f l = some raw → ∃ cs, Parse l cs ∧ raw = cs.map rawC
  | 0, [], raw, h => by
    cases h
    exact ⟨[], .nil, rfl⟩
  | f + 1, [], raw, h => by
    cases h
    exact ⟨[], .nil, rfl⟩
  | 0, _ :: _, raw, h => by cases h
  | f + 1, p :: r, raw, h => by
    have h' : (match PyFlat.call PyWrtibu.shape (p :: r) with
      | none => none
      | some (c, t) => match PyFlat.calls PyWrtibu.shape f t with
        | none => none
        | some cs => some (c :: cs)) = some raw := h
    cases hc : PyFlat.call PyWrtibu.shape (p :: r) with
    | none =>
      rw [hc] at h'
      cases h'
    | some ct =>
      obtain ⟨c, t⟩ := ct
      rw [hc] at h'
      have h' : (match PyFlat.calls PyWrtibu.shape f t with
        | none => none
        | some cs => some (c :: cs)) = some raw := h'
      cases hr : PyFlat.calls PyWrtibu.shape f t with
      | none =>
        rw [hr] at h'
        cases h'
      | some raws =>
        rw [hr] at h'
        cases h'
        obtain ⟨cs, hp, rfl⟩ := parse_of f t raws hr
        have hc' : (match PyWrtibu.shape p with
          | none => none
          | some (n, k) => if r.length < n then none else match PyFlat.rows k (r.drop n) with
            | none => none
            | some (xs, t) => some ((p :: r.take n) :: xs, t)) = some (c, t) := hc
        cases hs : PyWrtibu.shape p with
        | none =>
          rw [hs] at hc'
          cases hc'
        | some nk =>
          obtain ⟨n, k⟩ := nk
          rw [hs] at hc'
          have hc' : (if r.length < n then none else match PyFlat.rows k (r.drop n) with
            | none => none
            | some (xs, t) => some ((p :: r.take n) :: xs, t)) = some (c, t) := hc'
          split at hc'
          · cases hc'
          · rename_i hlen
            obtain ⟨f1, f2, f3, f4⟩ := shape_facts hs
            have htl : (r.take n).length = n := by rw [List.length_take]; omega
            rcases f3 with rfl | rfl
            · have hc' : some ((p :: r.take n) :: [], r.drop n) = some (c, t) := hc'
              cases hc'
              refine ⟨⟨p, r.take n, []⟩ :: cs, ?_, ?_⟩
              · have z := Parse.one (p := p) (ws := r.take n) (rest := r.drop n) hs htl hp
                rw [List.take_append_drop] at z
                exact z
              · rw [List.map_cons]
                unfold rawC
                rw [f2, if_neg (by decide)]
            · cases hd : r.drop n with
              | nil =>
                rw [hd] at hc'
                cases hc'
              | cons m q =>
                rw [hd] at hc'
                have hc' : (match (match (if 0 ≤ m ∧ m.toNat ≤ q.length then some (q.take m.toNat, q.drop m.toNat) else none) with
                    | none => none
                    | some (x, s) => match some (([] : List (List Int)), s) with
                      | none => none
                      | some (xs, t) => some (x :: xs, t)) with
                  | none => none
                  | some (xs, t) => some ((p :: r.take n) :: xs, t)) = some (c, t) := hc'
                by_cases hm : 0 ≤ m ∧ m.toNat ≤ q.length
                · rw [if_pos hm] at hc'
                  cases hc'
                  have hql : (q.take m.toNat).length = m.toNat := by rw [List.length_take]; omega
                  have em : ((q.take m.toNat).length : Int) = m := by rw [hql]; omega
                  refine ⟨⟨p, r.take n, q.take m.toNat⟩ :: cs, ?_, ?_⟩
                  · have z := Parse.row (p := p) (ws := r.take n) (rs := q.take m.toNat) (rest := q.drop m.toNat) hs htl hp
                    rw [em, List.take_append_drop, ← hd, List.take_append_drop] at z
                    exact z
                  · rw [List.map_cons]
                    unfold rawC
                    rw [f2, if_pos (by decide)]
                · rw [if_neg hm] at hc'
                  cases hc'
section
variable {P : Program} {w : World} {K : PySem.W.Frag} {mg : Str → Option Value} {base : Heap} {vs : List V} {H : Hp} {Q : VK} {E : XK}
/-- a call as it lies, new since H -/
def ClAt (H H' : Hp) (t : Addr) (c : Cl) : Prop := ∃ aW aR : Addr, (H t = none ∧ H aW = none ∧ H aR = none) ∧ H' t = some (.tup [.int c.p, .ref aW, .ref aR]) ∧ H' aW = some (.lst (c.ws.map V.int)) ∧ H' aR = some (.lst (c.rs.map V.int))
theorem ClAt.mono {H' H2 : Hp} {t : Addr} {c : Cl} (e : Ex H' H2) (h : ClAt H H' t c) : ClAt H H2 t c := by
  obtain ⟨aW, aR, h1, h2, h3, h4⟩ := h
  exact ⟨aW, aR, h1, e _ _ h2, e _ _ h3, e _ _ h4⟩
/-- the same, apart from D -/
def ClD (H : Hp) (D : Addr) (J : Hp) (t : Addr) (c : Cl) : Prop := ∃ aW aR : Addr, (H t = none ∧ H aW = none ∧ H aR = none) ∧ (t ≠ D ∧ aW ≠ D ∧ aR ≠ D) ∧ J t = some (.tup [.int c.p, .ref aW, .ref aR]) ∧ J aW = some (.lst (c.ws.map V.int)) ∧ J aR = some (.lst (c.rs.map V.int))
theorem ClD.but {D : Addr} {J J2 : Hp} {t : Addr} {c : Cl} (h : ClD H D J t c) (b : But D J J2) : ClD H D J2 t c := by
  obtain ⟨aW, aR, h1, h2, h3, h4, h5⟩ := h
  exact ⟨aW, aR, h1, h2, b _ _ h2.1 h3, b _ _ h2.2.1 h4, b _ _ h2.2.2 h5⟩
theorem ClD.mono {D : Addr} {J J2 : Hp} {t : Addr} {c : Cl} (e : Ex J J2) (h : ClD H D J t c) : ClD H D J2 t c := h.but fun a o _ z => e a o z
theorem ClD.at_ {D : Addr} {J : Hp} {t : Addr} {c : Cl} (h : ClD H D J t c) : ClAt H J t c := by
  obtain ⟨aW, aR, h1, h2, h3⟩ := h
  exact ⟨aW, aR, h1, h3⟩
/-- the reader's word: what is read, what is left -/
def RdI (a D : Addr) (H : Hp) (ns : List Int) (cs : List Cl) (m : Nat) (σ : L2.St) (J : Hp) : Prop := ∃ (ts : List Addr) (done rest : List Cl) (i : Nat) (u v x y z : Option V), σ = [some (.ref a), some (.ref D), some (.int (i : Int)), u, v, x, y, z] ∧ Ex H J ∧ J D = some (.lst (ts.map V.ref)) ∧ Paired (ClD H D J) ts done ∧ cs = done ++ rest ∧ i ≤ ns.length ∧ Parse (ns.drop i) rest ∧ m = ns.length - i
def sp_calls_of (K : PySem.W.Frag) : Sp := fun vs H Q _ => ∃ (a : Addr) (ns : List Int) (cs : List Cl), vs = [.ref a] ∧ SqL K H a (ns.map V.int) ∧ Parse ns cs ∧ cs.length ≤ 1000 ∧ ∀ p (ts : List Addr) H', H p = none → Ex H H' → H' p = some (.lst (ts.map V.ref)) → Paired (ClAt H H') ts cs → Q (.ref p) H'
theorem len_calls_of (h : sp_calls_of K vs H Q E) : vs.length = 1 := by
  obtain ⟨a, b, c, rfl, _⟩ := h
  rfl
theorem inV_ints (p : Int) : ∀ l : List Int, inV (.int p) (l.map V.int) = l.any fun i => i == p
  | [] => rfl
  | i :: r => by
    have ih := inV_ints p r
    unfold inV at ih ⊢
    rw [List.map_cons, List.any_cons, List.any_cons, ih]
    congr 1
theorem with_row_v (p : Int) : inV (.int p) [.int 1, .int 6, .int 16, .int 17] = withRow p := inV_ints p [1, 6, 16, 17]
abbrev NL_calls_of : List Str := ["numbers", "calls", "at", "number", "end", "wholes", "row", "begin"]
theorem sc_calls_of : FnScope NL_calls_of ["numbers"] (defScope s_calls_of) := ⟨rfl, rfl, rfl, by decide +kernel, rfl, by decide +kernel, by decide +kernel⟩
def t_calls_of (K : PySem.W.Frag) : TS := (tSeq (tAsg (tLst tNil) (gName 1))
    (tSeq (tAsg (tC (.int 0)) (gName 2))
    (tSeq (tWhile (tTest (tOp (rI0 fun i j => .bl (decide (i < j))) (tVar 2) (tCB (rLenS K) (tCons (tVar 0) tNil)))) (tSeq (tAsg (tOp (rIxL K) (tVar 0) (tVar 2)) (gName 3))
    (tSeq (tAsg (tOp (rI0 fun i j => .int (i + j)) (tOp (rI0 fun i j => .int (i + j)) (tVar 2) (tC (.int 1))) (tOp (rIxI K "WHOLES" wholesL) (tC (.ref (He.ga K "WHOLES"))) (tVar 3))) (gName 4))
    (tSeq (tAsg (tSl (rSlL K) (tVar 0) (tPart (tOp (rI0 fun i j => .int (i + j)) (tVar 2) (tC (.int 1)))) (tPart (tVar 4))) (gName 5))
    (tSeq (tAsg (tLst tNil) (gName 6))
    (tSeq (tIfS (tTest (tOp (rIn K false) (tVar 3) (tC (.ref (He.ga K "WITH_ROW"))))) (tSeq (tAsg (tOp (rI0 fun i j => .int (i + j)) (tVar 4) (tC (.int 1))) (gName 7))
    (tSeq (tAsg (tOp (rI0 fun i j => .int (i + j)) (tVar 7) (tOp (rIxL K) (tVar 0) (tVar 4))) (gName 4))
    (tAsg (tSl (rSlL K) (tVar 0) (tPart (tVar 7)) (tPart (tVar 4))) (gName 6)))) tNext)
    (tSeq (tDrop (tBM K "list" rAppend (tVar 1) (tCons (tTup (tCons (tVar 3) (tCons (tVar 5) (tCons (tVar 6) tNil)))) tNil)))
    (tAsg (tVar 4) (gName 2)))))))))
    (tRet (tVar 1)))))
theorem w_calls_of (T : Txt K mg) (cdv : Value) (A : Around) (outer : List Env) (s : Shared) (H : Hp) (E : XK) (hr : Room 0 (A.deeper (envOfC "calls_of" (defScope s_calls_of) s.heap.objs.size (He.fAd K ("calls_of", none)) cdv))) :
    PSs (cxOf CX0 P w K mg base NL_calls_of "calls_of" (defScope s_calls_of) (He.fAd K ("calls_of", none)) cdv A outer s H E).nox (defBody s_calls_of) (t_calls_of K) := by
  exact (pss_cons (ps_set (i := 1) sc_calls_of.nd rfl (.inl rfl) (pe_lst pa_nil))
    (pss_cons (ps_set (i := 2) sc_calls_of.nd rfl (.inl rfl) (by exact pe_int))
    (pss_cons (ps_while PassesOwn.never (pt_cmpR op_lt (pv 2) (pe_callB call_len_seq rfl (T.free 78 rfl) (by decide +kernel) (pa_cons (pv 0) pa_nil)) (nomark _)) (pss_cons (ps_set (i := 3) sc_calls_of.nd rfl (.inl rfl) (pe_ix ix_list (pv 0) (pv 2) (fun _ _ => rfl)))
    (pss_cons (ps_set (i := 4) sc_calls_of.nd rfl (.inl rfl) (pe_op op_add (pe_op op_add (pv 2) (by exact pe_int)) (pe_ix (ix_dicI T.wholes) (pe_gr rfl (T.glo 65 rfl)) (pv 3) (fun _ _ => rfl))))
    (pss_cons (ps_set (i := 5) sc_calls_of.nd rfl (.inl rfl) (pe_slice sl_list (pv 0) (po_some (pe_op op_add (pv 2) (by exact pe_int))) (po_some (pv 4))))
    (pss_cons (ps_set (i := 6) sc_calls_of.nd rfl (.inl rfl) (pe_lst pa_nil))
    (pss_cons (ps_if (pt_cmpR op_in_seq (pv 3) (pe_gr rfl (T.glo 66 rfl)) rfl) (pss_cons (ps_set (i := 7) sc_calls_of.nd rfl (.inl rfl) (pe_op op_add (pv 4) (by exact pe_int)))
    (pss_cons (ps_set (i := 4) sc_calls_of.nd rfl (.inl rfl) (pe_op op_add (pv 7) (pe_ix ix_list (pv 0) (pv 4) (fun _ _ => rfl))))
    (pss_one (ps_set (i := 6) sc_calls_of.nd rfl (.inl rfl) (pe_slice sl_list (pv 0) (po_some (pv 7)) (po_some (pv 4))))))) pss_nil)
    (pss_cons (ps_expr (pe_bm PySem.F.plainAttrs_list PySem.F.slot_list_append PySem.F.type_list_append mt_append (pv 1) (pa_cons (pe_tup (pa_cons (pv 3) (pa_cons (pv 5) (pa_cons (pv 6) pa_nil)))) pa_nil)))
    (pss_one (ps_set (i := 2) sc_calls_of.nd rfl (.inl rfl) (pv 4))))))))))
    (pss_one (ps_ret (pv 1))))))
theorem pure_calls_of (T : Txt K mg) (h : sp_calls_of K vs H Q E) : t_calls_of K { nx := fun _ H' => Q .non H', rt := Q } (start NL_calls_of vs) H := by
  obtain ⟨a, ns, cs, rfl, hN, hP, hcl, k⟩ := h
  refine q_asgL el_nil fun D H1 hD e1 h1 => ?_
  refine q_asg ev_c fun H2 e2 => ?_
  refine q_while (RdI a D H ns cs) ns.length ?_ ?_
  · exact ⟨[], [], cs, 0, none, none, none, none, none, rfl, e1.trans e2, e2 _ _ h1, .nil, rfl, Nat.zero_le _, hP, rfl⟩
  · rintro m σ' H' ⟨ts, done, rest, i, u, v, x, y, z, rfl, e, h4, h5, hcs, hi, hp, rfl⟩
    refine ⟨_, et_test (ev_lt (ev_var rfl) (ev_lenI (ev_var rfl) (ex_l e hN))), fun hb H3 e3 => ?_, fun hb H3 e3 => ?_⟩
    · have hlt : i < ns.length := by
        have := of_decide_eq_true hb
        omega
      refine ⟨fun σ2 J => ∃ m', m' < ns.length - i ∧ RdI a D H ns cs m' σ2 J, fun σ2 J h => h, ?_⟩
      have e03 := e.trans e3
      have hD3 := e3 _ _ h4
      have hlen : ts.length ≤ 1000 := by
        rw [h5.length]
        have := congrArg List.length hcs
        rw [List.length_append] at this
        omega
      have hdr : ∀ {j : Nat} {q : Int} {l : List Int}, ns.drop j = q :: l → ns[j]? = some q ∧ ns.drop (j + 1) = l ∧ j < ns.length := fun {j q l} hd => by
        have hj : j < ns.length := by
          by_cases c : j < ns.length
          · exact c
          · rw [List.drop_eq_nil_of_le (by omega)] at hd
            cases hd
        rw [List.drop_eq_getElem_cons hj] at hd
        injection hd with d1 d2
        exact ⟨by rw [List.getElem?_eq_getElem hj, d1], d2, hj⟩
      have fin : ∀ {Dn : Ends} {J : Hp} {c : Cl} {rest' : List Cl} {i' : Nat} {aW aR : Addr} {z : Option V}, (Dn.nx = fun σ2 J => ∃ m', m' < ns.length - i ∧ RdI a D H ns cs m' σ2 J) → Ex H3 J → (H3 aW = none ∧ H3 aR = none) → J aW = some (.lst (c.ws.map V.int)) → J aR = some (.lst (c.rs.map V.int)) → rest = c :: rest' → i < i' → i' ≤ ns.length → Parse (ns.drop i') rest' →
          tSeq (tDrop (tBM K "list" rAppend (tVar 1) (tCons (tTup (tCons (tVar 3) (tCons (tVar 5) (tCons (tVar 6) tNil)))) tNil))) (tAsg (tVar 4) (gName 2)) Dn [some (.ref a), some (.ref D), some (.int (i : Int)), some (.int c.p), some (.int (i' : Int)), some (.ref aW), some (.ref aR), z] J := fun {Dn J c rest' i' aW aR z} hnx eJ hfr hW hR hrest hii hi' hp' => by
        have hDJ := eJ _ _ hD3
        have aWD : aW ≠ D := fun q => by
          rw [q, hD3] at hfr
          cases hfr.1
        have aRD : aR ≠ D := fun q => by
          rw [q, hD3] at hfr
          cases hfr.2
        refine q_appU (xs := ts.map V.ref) (ys := [.int c.p, .ref aW, .ref aR]) hDJ (ev_var rfl) (eu_tup (ea_cons (ev_var rfl) (ea_cons (ev_var rfl) (ea_cons (ev_var rfl) ea_nil))) (by show 3 ≤ 100000; decide)) (by rw [List.length_map]; omega) fun t J2 ht e2 ht2 => ?_
        refine s_asg (ev_var rfl) fun J3 e3' => ?_
        rw [hnx]
        have tD : t ≠ D := fun q => by
          rw [q, hDJ] at ht
          cases ht
        have b2 : But D J (upd J2 D (.lst (ts.map V.ref ++ [.ref t]))) := ((But.refl _ J).ex e2).upd
        refine ⟨ns.length - i', by omega, ts ++ [t], done ++ [c], rest', i', some (.int c.p), some (.int (i' : Int)), some (.ref aW), some (.ref aR), z, rfl, (Ex.mut ((e03.trans eJ).trans e2) hD).trans e3', ?_, ?_, ?_, hi', hp', rfl⟩
        · refine e3' _ _ ?_
          rw [map_snoc]
          exact upd_same
        · refine paired_snoc (Paired.mapP h5 fun t' c' q => (((q.mono (e3.trans eJ)).but b2).mono e3')) ⟨aW, aR, ⟨fresh_back (e03.trans eJ) ht, fresh_back e03 hfr.1, fresh_back e03 hfr.2⟩, ⟨tD, aWD, aRD⟩, e3' _ _ ?_, e3' _ _ (b2 _ _ aWD hW), e3' _ _ (b2 _ _ aRD hR)⟩
          rw [upd_ne tD]
          exact ht2
        · rw [hcs, hrest, List.append_assoc]
          rfl
      generalize hd : ns.drop i = l at hp
      cases hp with
      | nil =>
        have := congrArg List.length hd
        rw [List.length_drop, List.length_nil] at this
        omega
      | @one p n ws rest2 cs2 hs hwl hp2 =>
        obtain ⟨d1, d2, d3⟩ := hdr hd
        obtain ⟨s1, s2, s3, s4⟩ := shape_facts hs
        have d4 : ns.drop (i + 1 + n) = rest2 := by
          rw [← List.drop_drop, d2, ← hwl, List.drop_left]
        have hl1 : i + 1 + n ≤ ns.length := by
          have := congrArg List.length d2
          rw [List.length_drop, List.length_append, hwl] at this
          omega
        refine q_asg (ev_ixL (ev_var rfl) (ev_var rfl) (ex_l e03 hN) (at_int (n := i) rfl d1)) fun H4 e4 => ?_
        refine q_asg (ev_int (ev_add (ev_add (ev_var rfl) ev_c) (ev_op (z := .int (n : Int)) ev_c (ev_var rfl) fun H1 _ Q q => ⟨p, _, rfl, rfl, s1, q H1 (Ex.refl H1)⟩)) (show (i : Int) + 1 + (n : Int) = ((i + 1 + n : Nat) : Int) by omega)) fun H5 e5 => ?_
        have e45 := e4.trans e5
        have zz := el_sl (K := K) (te := tVar 0) (ev_var rfl) (eo_some (ev_int (ev_add (ev_var (i := 2) rfl) (ev_c (v := .int 1))) (show (i : Int) + 1 = ((i + 1 : Nat) : Int) by omega))) (eo_some (ev_var (i := 4) (σ := [some (.ref a), some (.ref D), some (.int (i : Int)), some (.int p), some (.int ((i + 1 + n : Nat) : Int)), x, y, z]) rfl)) (ex_l (e03.trans e45) hN)
        rw [cutV_map V.int _ _ _ (by omega) hl1, d2, show i + 1 + n - (i + 1) = n by omega, ← hwl, List.take_left] at zz
        rw [hwl] at zz
        refine q_asgL zz fun aW H6 hfW e6 hW => ?_
        refine q_asgL el_nil fun aR H7 hfR e7 hR => ?_
        refine q_when (b := false) (et_is (et_test (ev_op (r := rIn K false) (ev_var rfl) ev_c (rv_isT (T.withRow _) rfl rfl))) (by rw [with_row_v, s2]; rfl)) (fun hb => by cases hb) (fun hb H8 e8 => ?_)
        exact fin (c := ⟨p, ws, []⟩) (i' := i + 1 + n) rfl ((e45.trans e6).trans (e7.trans e8)) ⟨fresh_back e45 hfW, fresh_back (e45.trans e6) hfR⟩ ((e7.trans e8) _ _ hW) (e8 _ _ hR) rfl (by omega) hl1 (by rw [d4]; exact hp2)
      | @row p n ws rs rest2 cs2 hs hwl hp2 =>
        obtain ⟨d1, d2, d3⟩ := hdr hd
        obtain ⟨s1, s2, s3, s4⟩ := shape_facts hs
        have d4 : ns.drop (i + 1 + n) = (rs.length : Int) :: (rs ++ rest2) := by
          rw [← List.drop_drop, d2, ← hwl, List.drop_left]
        obtain ⟨d5, d6, d7⟩ := hdr d4
        have d8 : ns.drop (i + 1 + n + 1 + rs.length) = rest2 := by
          rw [← List.drop_drop, d6, List.drop_left]
        have hl2 : i + 1 + n + 1 + rs.length ≤ ns.length := by
          have := congrArg List.length d6
          rw [List.length_drop, List.length_append] at this
          omega
        refine q_asg (ev_ixL (ev_var rfl) (ev_var rfl) (ex_l e03 hN) (at_int (n := i) rfl d1)) fun H4 e4 => ?_
        refine q_asg (ev_int (ev_add (ev_add (ev_var rfl) ev_c) (ev_op (z := .int (n : Int)) ev_c (ev_var rfl) fun H1 _ Q q => ⟨p, _, rfl, rfl, s1, q H1 (Ex.refl H1)⟩)) (show (i : Int) + 1 + (n : Int) = ((i + 1 + n : Nat) : Int) by omega)) fun H5 e5 => ?_
        have e45 := e4.trans e5
        have zz := el_sl (K := K) (te := tVar 0) (ev_var rfl) (eo_some (ev_int (ev_add (ev_var (i := 2) rfl) (ev_c (v := .int 1))) (show (i : Int) + 1 = ((i + 1 : Nat) : Int) by omega))) (eo_some (ev_var (i := 4) (σ := [some (.ref a), some (.ref D), some (.int (i : Int)), some (.int p), some (.int ((i + 1 + n : Nat) : Int)), x, y, z]) rfl)) (ex_l (e03.trans e45) hN)
        rw [cutV_map V.int _ _ _ (by omega) (by omega), d2, show i + 1 + n - (i + 1) = n by omega, ← hwl, List.take_left] at zz
        rw [hwl] at zz
        refine q_asgL zz fun aW H6 hfW e6 hW => ?_
        refine q_asgL el_nil fun aE H7 hfE e7 hE => ?_
        refine q_when (b := true) (et_is (et_test (ev_op (r := rIn K false) (ev_var rfl) ev_c (rv_isT (T.withRow _) rfl rfl))) (by rw [with_row_v, s2]; rfl)) (fun hb H8 e8 => ?_) (fun hb => by cases hb)
        have e38 := (e45.trans e6).trans (e7.trans e8)
        refine q_asg (ev_int (ev_add (ev_var rfl) (ev_c (v := .int 1))) (show ((i + 1 + n : Nat) : Int) + 1 = ((i + 1 + n + 1 : Nat) : Int) by omega)) fun H9 e9 => ?_
        refine q_asg (ev_int (ev_add (ev_var rfl) (ev_ixL (ev_var (i := 0) rfl) (ev_var (i := 4) rfl) (ex_l (e03.trans (e38.trans e9)) hN) (at_int (n := i + 1 + n) rfl d5))) (show ((i + 1 + n + 1 : Nat) : Int) + (rs.length : Int) = ((i + 1 + n + 1 + rs.length : Nat) : Int) by omega)) fun H10 e10 => ?_
        have e310 := (e38.trans e9).trans e10
        have zz2 := el_sl (K := K) (te := tVar 0) (ev_var rfl) (eo_some (ev_var (i := 7) rfl)) (eo_some (ev_var (i := 4) (σ := [some (.ref a), some (.ref D), some (.int (i : Int)), some (.int p), some (.int ((i + 1 + n + 1 + rs.length : Nat) : Int)), some (.ref aW), some (.ref aE), some (.int ((i + 1 + n + 1 : Nat) : Int))]) rfl)) (ex_l (e03.trans e310) hN)
        rw [cutV_map V.int _ _ _ (by omega) hl2, d6, show i + 1 + n + 1 + rs.length - (i + 1 + n + 1) = rs.length by omega, List.take_left] at zz2
        refine s_asgL zz2 fun aR H11 hfR e11 hR => ?_
        exact fin (c := ⟨p, ws, rs⟩) (i' := i + 1 + n + 1 + rs.length) rfl (e310.trans e11) ⟨fresh_back e45 hfW, fresh_back e310 hfR⟩ (((((e7.trans e8).trans e9).trans e10).trans e11) _ _ hW) hR rfl (by omega) hl2 (by rw [d8]; exact hp2)
    · have hge : i = ns.length := by
        have := of_decide_eq_false hb
        omega
      rw [hge, List.drop_length] at hp
      have hr : rest = [] := by
        cases hp
        rfl
      rw [hr, List.append_nil] at hcs
      subst hcs
      exact s_ret (ev_var rfl) fun H4 e4 => k D ts H4 hD ((e.trans e3).trans e4) (e4 _ _ (e3 _ _ h4)) (Paired.mapP h5 fun t c q => (q.mono (e3.trans e4)).at_)
theorem ok_calls_of (T : Txt K mg) : Good P w K mg base ("calls_of", none) 1 ["numbers"] (sp_calls_of K) :=
  good_mk (d := d_calls_of) T 83 rfl rfl rfl sc_calls_of (fun vs H Q E h => len_calls_of h) (fun _ _ _ _ _ _ us hl => match us, hl with | [_], _ => rfl) (fun cdv A outer s H E hr => w_calls_of T cdv A outer s H E hr) (fun vs H Q E h => pure_calls_of T h)
end
end Sb
end
section
set_option maxHeartbeats 4000000
namespace Sb
open PySem PySem.Spec PySem.Calls PyProof.Rows L2 Evl
/-- a call of a local name that holds a def: the promise comes with the value -/
def tCallH (P : Program) (w : World) (K : PySem.W.Frag) (mg : Str → Option Value) (base : Heap) (k i : Nat) (t : TA) : TE := fun σ H Q => ∃ f sp, σ[i]? = some (some (.ref f)) ∧ Held P w K mg base k f sp ∧ t σ H fun vs H1 => sp vs H1 Q (fun _ _ _ => False)
theorem pe_callH {X : Cx} {k i : Nat} {x : Str} {p pos : Pos} {e : Expr} {es : List Expr} {t : TA} (hr : Room k X.A) (hN : X.N[i]? = some x) (hv : Vis X.env.scope x) (ha : PA X (e :: es) t)
    (hdb : (x == ("__debug__" : Str)) = false := by decide) (hcd : (x == ("__classdict__" : Str)) = false := by decide)
    (he : starEach (e :: es) X.env = (false, eval e X.env) :: starEach es X.env := by rfl) (hpl : (backTo pos (starEach es X.env)).any (·.1) = false := by rfl) : PE X (.Call (.Name x p) (e :: es) [] pos) (tCallH X.prog X.w X.K X.mg X.base k i t) := by
  refine ⟨fun pins s σ H Q I h => ?_⟩
  obtain ⟨f, sp, hs, A, ht⟩ := h
  exact (pe_callA (S := fun g => if g = f then some sp else none) (fun g q hq => by
    by_cases c : g = f
    · subst c
      rw [if_pos rfl] at hq
      cases hq
      exact A
    · rw [if_neg c] at hq
      cases hq) hr hN hv ha hdb hcd he hpl).run pins s σ H Q I ⟨f, sp, hs, if_pos rfl, ht⟩
section
variable {P : Program} {w : World} {K : PySem.W.Frag} {mg : Str → Option Value} {base : Heap}
theorem held7 {x : Str} {j : Nat} {ps : List Str} {sp : Sp} (G : Good P w K mg base (x, none) j ps sp) (h : j ≤ 7) : Held P w K mg base 7 (He.ga K x) sp := by
  obtain ⟨fd, F, b, kp⟩ := G
  exact ⟨⟨fd, ps, F.mono h, kp, b⟩⟩
theorem deed_of (T : Txt K mg) {p : Int} {n k : Nat} (h : PyWrtibu.shape p = some (n, k)) : ∃ x mk, deedsL.lookup p = some (.glo x) ∧ Held P w K mg base 7 (He.ga K x) (spDeed K n mk) ∧ ∀ ws rs, ws.length = n → (k = 0 → rs = []) → WrtibuNeutral.callOf (rawC ⟨p, ws, rs⟩) = some (mk ws rs) := by
  rcases shape_cases h with ⟨rfl, rfl, rfl⟩ | ⟨rfl, rfl, rfl⟩ | ⟨rfl, rfl, rfl⟩ | ⟨rfl, rfl, rfl⟩ | ⟨rfl, rfl, rfl⟩ | ⟨rfl, rfl, rfl⟩ | ⟨rfl, rfl, rfl⟩ | ⟨rfl, rfl, rfl⟩ | ⟨rfl, rfl, rfl⟩ | ⟨rfl, rfl, rfl⟩ | ⟨rfl, rfl, rfl⟩ | ⟨rfl, rfl, rfl⟩ | ⟨rfl, rfl, rfl⟩ | ⟨rfl, rfl, rfl⟩ | ⟨rfl, rfl, rfl⟩ | ⟨rfl, rfl, rfl⟩ | ⟨rfl, rfl, rfl⟩ | ⟨rfl, rfl, rfl⟩ | ⟨rfl, rfl, rfl⟩ | ⟨rfl, rfl, rfl⟩ | ⟨rfl, rfl, rfl⟩ | ⟨rfl, rfl, rfl⟩ | ⟨rfl, rfl, rfl⟩ | ⟨rfl, rfl, rfl⟩ | ⟨rfl, rfl, rfl⟩
  · refine ⟨"do_stem", _, rfl, held7 (ok_do_stem T) (by decide), fun ws rs hw hr => ?_⟩
    obtain rfl : ws = [] := List.length_eq_zero_iff.mp hw
    rfl
  · refine ⟨"do_zone", _, rfl, held7 (ok_do_zone T) (by decide), fun ws rs hw hr => ?_⟩
    match ws, hw with
    | [x0, x1, x2], _ => rfl
  · refine ⟨"do_rot", _, rfl, held7 (ok_do_rot T) (by decide), fun ws rs hw hr => ?_⟩
    match ws, hw with
    | [x0, x1], _ => rfl
  · refine ⟨"do_crook", _, rfl, held7 (ok_do_crook T) (by decide), fun ws rs hw hr => ?_⟩
    match ws, hw with
    | [x0, x1], _ => rfl
  · refine ⟨"do_product", _, rfl, held7 (ok_do_product T) (by decide), fun ws rs hw hr => ?_⟩
    match ws, hw with
    | [x0, x1, x2, x3, x4, x5, x6, x7], _ => rfl
  · refine ⟨"do_price", _, rfl, held7 (ok_do_price T) (by decide), fun ws rs hw hr => ?_⟩
    match ws, hw with
    | [x0], _ => rfl
  · refine ⟨"do_drop", _, rfl, held7 (ok_do_drop T) (by decide), fun ws rs hw hr => ?_⟩
    match ws, hw with
    | [x0], _ => rfl
  · refine ⟨"tell_diameter", _, rfl, held7 (ok_tell_diameter T) (by decide), fun ws rs hw hr => ?_⟩
    match ws, hw with
    | [x0], _ => rfl
  · refine ⟨"tell_litres", _, rfl, held7 (ok_tell_litres T) (by decide), fun ws rs hw hr => ?_⟩
    match ws, hw with
    | [x0, x1], _ => rfl
  · refine ⟨"tell_grade", _, rfl, held7 (ok_tell_grade T) (by decide), fun ws rs hw hr => ?_⟩
    match ws, hw with
    | [x0, x1], _ => rfl
  · refine ⟨"tell_fits", _, rfl, held7 (ok_tell_fits T) (by decide), fun ws rs hw hr => ?_⟩
    match ws, hw with
    | [x0, x1, x2], _ => rfl
  · refine ⟨"tell_worth", _, rfl, held7 (ok_tell_worth T) (by decide), fun ws rs hw hr => ?_⟩
    match ws, hw with
    | [x0, x1, x2], _ => rfl
  · refine ⟨"tell_best", _, rfl, held7 (ok_tell_best T) (by decide), fun ws rs hw hr => ?_⟩
    obtain rfl : ws = [] := List.length_eq_zero_iff.mp hw
    rfl
  · refine ⟨"tell_second", _, rfl, held7 (ok_tell_second T) (by decide), fun ws rs hw hr => ?_⟩
    obtain rfl : ws = [] := List.length_eq_zero_iff.mp hw
    rfl
  · refine ⟨"tell_worths", _, rfl, held7 (ok_tell_worths T) (by decide), fun ws rs hw hr => ?_⟩
    obtain rfl : ws = [] := List.length_eq_zero_iff.mp hw
    rfl
  · refine ⟨"tell_check", _, rfl, held7 (ok_tell_check T) (by decide), fun ws rs hw hr => ?_⟩
    obtain rfl : ws = [] := List.length_eq_zero_iff.mp hw
    rfl
  · refine ⟨"tell_judge", _, rfl, held7 (ok_tell_judge T) (by decide), fun ws rs hw hr => ?_⟩
    obtain rfl : ws = [] := List.length_eq_zero_iff.mp hw
    rfl
  · refine ⟨"tell_bonus", _, rfl, held7 (ok_tell_bonus T) (by decide), fun ws rs hw hr => ?_⟩
    match ws, hw with
    | [x0], _ => rfl
  · refine ⟨"tell_lost", _, rfl, held7 (ok_tell_lost T) (by decide), fun ws rs hw hr => ?_⟩
    match ws, hw with
    | [x0, x1], _ => rfl
  · refine ⟨"do_cut", _, rfl, held7 (ok_do_cut T) (by decide), fun ws rs hw hr => ?_⟩
    match ws, hw with
    | [x0, x1], _ => rfl
  · refine ⟨"do_waste", _, rfl, held7 (ok_do_waste T) (by decide), fun ws rs hw hr => ?_⟩
    match ws, hw with
    | [x0], _ => rfl
  · refine ⟨"do_back", _, rfl, held7 (ok_do_back T) (by decide), fun ws rs hw hr => ?_⟩
    obtain rfl : ws = [] := List.length_eq_zero_iff.mp hw
    rfl
  · refine ⟨"tell_pieces", _, rfl, held7 (ok_tell_pieces T) (by decide), fun ws rs hw hr => ?_⟩
    obtain rfl : ws = [] := List.length_eq_zero_iff.mp hw
    rfl
  · refine ⟨"tell_without", _, rfl, held7 (ok_tell_without T) (by decide), fun ws rs hw hr => ?_⟩
    match ws, hw with
    | [x0], _ => rfl
  · refine ⟨"tell_whole", _, rfl, held7 (ok_tell_whole T) (by decide), fun ws rs hw hr => ?_⟩
    obtain rfl : ws = [] := List.length_eq_zero_iff.mp hw
    rfl
end
end Sb
end
section
set_option maxHeartbeats 4000000
namespace Sb
open PySem PySem.Spec PySem.Calls PyProof.Rows L2 Evl
/-! ## what is asked -/
theorem whole_same (c : List (List Int)) : PyWrtibu.whole c = c := by
  unfold PyWrtibu.whole
  split <;> rfl
theorem parse_mem : ∀ {l : List Int} {cs : List Cl}, Parse l cs → ∀ c ∈ cs, ∃ n k, PyWrtibu.shape c.p = some (n, k) ∧ c.ws.length = n ∧ (k = 0 → c.rs = []) ∧ (c.rs = [] ∨ c.rs ∈ rawC c)
  | _, _, .nil, c, h => absurd h List.not_mem_nil
  | _, _, .one (p := p) (n := n) (ws := ws) hs hl hp, c, h => by
    rcases List.mem_cons.mp h with rfl | h
    · exact ⟨n, 0, hs, hl, fun _ => rfl, .inl rfl⟩
    · exact parse_mem hp c h
  | _, _, .row (p := p) (n := n) (ws := ws) (rs := rs) hs hl hp, c, h => by
    rcases List.mem_cons.mp h with rfl | h
    · refine ⟨n, 1, hs, hl, fun z => (by cases z), .inr ?_⟩
      unfold rawC
      rw [(shape_facts hs).2.1, if_pos (by decide)]
      exact List.mem_cons_of_mem _ (List.mem_cons_self ..)
    · exact parse_mem hp c h
abbrev play (S : Wrtibu.State) (cs : List Cl) : List (List Int) := PyFlat.played WrtibuNeutral.step S (cs.map rawC)
theorem asked_is {ns : List Int} (h : PyWrtibu.answers_asked ns = true) : ∃ cs, Parse ns cs ∧ cs.length ≤ 60 ∧ (∀ c ∈ cs, c.rs.length ≤ 1000) ∧ PyWrtibu.answers ns = PyFlat.told (play WrtibuNeutral.start cs) ∧ (PyFlat.told (play WrtibuNeutral.start cs)).length ≤ 10000000 := by
  unfold PyWrtibu.answers_asked at h
  cases hc : PyFlat.calls PyWrtibu.shape ns.length ns with
  | none =>
    rw [hc] at h
    cases h
  | some raw =>
    rw [hc] at h
    have h : (!raw.isEmpty && PyFlat.atMost 60 raw && PyInside.calls PyWrtibu.bound raw && WrtibuNeutral.asked (raw.map PyWrtibu.whole) && PyFlat.short 10000000 (PyWrtibu.answers ns)) = true := h
    rw [Bool.and_eq_true, Bool.and_eq_true, Bool.and_eq_true, Bool.and_eq_true] at h
    obtain ⟨⟨⟨⟨_, h2⟩, _⟩, h4⟩, h5⟩ := h
    obtain ⟨cs, hp, rfl⟩ := parse_of _ _ _ hc
    have ew : (cs.map rawC).map PyWrtibu.whole = cs.map rawC := by
      rw [List.map_map]
      apply List.map_congr_left
      intro c _
      exact whole_same _
    have ea : PyWrtibu.answers ns = PyFlat.told (play WrtibuNeutral.start cs) := by
      unfold PyWrtibu.answers PyWrtibu.calls
      rw [hc]
      show PyFlat.told (PyFlat.played WrtibuNeutral.step WrtibuNeutral.start ((cs.map rawC).map PyWrtibu.whole)) = _
      rw [ew]
    refine ⟨cs, hp, ?_, fun c hcm => ?_, ea, ?_⟩
    · have := of_decide_eq_true h2
      rw [List.length_map] at this
      exact this
    · obtain ⟨n, k, _, _, _, hr⟩ := parse_mem hp c hcm
      rcases hr with hr | hr
      · rw [hr]
        exact Nat.zero_le _
      · rw [ew] at h4
        have h4 : ((cs.map rawC).all WrtibuNeutral.asked1 && _) = true := h4
        rw [Bool.and_eq_true] at h4
        have a1 := List.all_eq_true.mp h4.1 (rawC c) (List.mem_map.mpr ⟨c, hcm, rfl⟩)
        unfold WrtibuNeutral.asked1 at a1
        rw [Bool.and_eq_true] at a1
        have a2 := List.all_eq_true.mp a1.2 c.rs hr
        rw [Bool.and_eq_true] at a2
        exact of_decide_eq_true a2.1
    · have := of_decide_eq_true h5
      rw [ea] at this
      exact this
theorem told_app (a b : List (List Int)) : PyFlat.told (a ++ b) = PyFlat.told a ++ PyFlat.told b := List.flatMap_append
theorem told_one (a : List Int) : PyFlat.told [a] = (a.length : Int) :: a := by
  show ((a.length : Int) :: a) ++ [] = _
  rw [List.append_nil]
section
variable {K : PySem.W.Frag} {σ : L2.St} {H H' : Hp} {D : Ends} {tu tz : TS} {ta te : TE} {g : TG}
theorem q_liX {X : Hp → V → Hp → Prop} (h : EvX te σ H X) (k : ∀ v H1, Ex H H1 → X H v H1 → tSeq (tFor (iList K (tC v)) g tu) tz D σ H1) : tSeq (tFor (iList K te) g tu) tz D σ H := h H (Ex.refl H) _ fun v H1 e x => k v H1 e x
theorem q_appZ {l : Addr} {xs : List V} {v : V} (hl : H l = some (.lst xs)) (ha : Ev ta σ H (.ref l)) (h : Ev te σ H v) (hz : xs.length < 16777216) (k : ∀ H1, Ex H H1 → tz D σ (upd H1 l (.lst (xs ++ [v])))) :
    tSeq (tDrop (tBM K "list" rAppend ta (tCons te tNil))) tz D σ H := ha H (Ex.refl H) _ fun H1 e1 =>
  ⟨Or.inl ⟨rfl, xs, sq_of (e1 l _ hl)⟩, h H1 e1 _ fun H2 e2 => ⟨l, xs, v, rfl, rfl, e2 l _ (e1 l _ hl), Nat.lt_of_lt_of_le hz (by decide), k H2 (e1.trans e2)⟩⟩
theorem s_extV {l b : Addr} {xs ys : List V} (hl : H l = some (.lst xs)) (hb : H b = some (.lst ys)) (ha : Ev ta σ H (.ref l)) (h : Ev te σ H (.ref b)) (hz : xs.length + ys.length ≤ 16777216) (k : ∀ H1, Ex H H1 → D.nx σ (upd H1 l (.lst (xs ++ ys)))) :
    tDrop (tBM K "list" rExtend ta (tCons te tNil)) D σ H := ha H (Ex.refl H) _ fun H1 e1 =>
  ⟨Or.inl ⟨rfl, xs, sq_of (e1 l _ hl)⟩, h H1 e1 _ fun H2 e2 => ⟨l, b, xs, ys, rfl, rfl, e2 l _ (e1 l _ hl), e2 _ _ (e1 _ _ hb), Nat.le_trans hz (by decide), k H2 (e1.trans e2)⟩⟩
theorem DeskAt.keep {A : DkA} {S : Wrtibu.State} {L : Addr} {zs : List V} (h : DeskAt K H A S) (hz : H L = some (.lst zs)) (b : But L H H') (n : L ∉ A.all) : DeskAt K H' A S := by
  have kp : Keep K H H' L := Keep.lst hz b
  have nl : L ∉ A.lists := fun z => n (List.mem_cons_of_mem _ (List.mem_append_left _ z))
  have npl : L ≠ A.pl := fun z => nl (by rw [z, DkA.lists_eq]; exact List.mem_cons_self ..)
  have ni : ∀ {c C dx : Addr} {fs : List (Str × V)}, H c = some (.ins C dx fs) → L ≠ c := fun hc => ne_of hz hc (by intro z; cases z)
  refine ⟨kp.but _ _ (Ne.symm (ni h.ins)) h.ins, prods_mk (kp.but _ _ (Ne.symm npl) h.pro.lst) h.pro.len (by rw [h.pro.all.length, h.pro.len]) fun i B p hB hp => ?_, ?_, h.nl, h.ni⟩
  · obtain ⟨B', h1, h2⟩ := h.pro.get hp
    rw [hB] at h1
    cases h1
    refine h2.keep kp fun C hC => ?_
    subst hC
    obtain ⟨q, _, hq⟩ := h.pr_get hB
    exact ⟨ni hq.ins, fun z => nl (by rw [z, DkA.lists_eq]; exact List.mem_cons_of_mem _ (List.mem_append_right _ (mem_aQ hB)))⟩
  · have z := h.st
    cases hA : A.st with
    | none =>
      rw [hA] at z
      cases hS : S.stem with
      | none => trivial
      | some s =>
        rw [hS] at z
        exact z
    | some B =>
      rw [hA] at z
      cases hS : S.stem with
      | none =>
        rw [hS] at z
        exact z
      | some s =>
        rw [hS] at z
        have hs : StemAt K H B s := z
        refine StemAt.keep hs kp (ni hs.ins) fun q => nl ?_
        rw [DkA.lists_eq, hA]
        exact List.mem_cons_of_mem _ (List.mem_append_left _ q)
end
section
variable {P : Program} {w : World} {K : PySem.W.Frag} {mg : Str → Option Value} {base : Heap} {vs : List V} {H : Hp} {Q : VK} {E : XK}
def sp_answers (K : PySem.W.Frag) : Sp := fun vs H Q _ => ∃ (a : Addr) (ns : List Int), vs = [.ref a] ∧ SqL K H a (ns.map V.int) ∧ PyWrtibu.answers_asked ns = true ∧ ∀ p H', H' p = some (.lst ((PyWrtibu.answers ns).map V.int)) → Q (.ref p) H'
theorem len_answers (h : sp_answers K vs H Q E) : vs.length = 1 := by
  obtain ⟨a, b, rfl, _⟩ := h
  rfl
abbrev NL_answers : List Str := ["calls", "desk", "told", "number", "wholes", "row", "deed", "answer"]
theorem sc_answers : FnScope NL_answers ["calls"] (defScope s_answers) := ⟨rfl, rfl, rfl, by decide +kernel, rfl, by decide +kernel, by decide +kernel⟩
def t_answers (P : Program) (w : World) (K : PySem.W.Frag) (mg : Str → Option Value) (base : Heap) : TS := (tSeq (tAsg (tMake (He.ga K "Desk") (sp_Desk___init__ K) [] E0 tNil) (gName 1))
    (tSeq (tAsg (tLst tNil) (gName 2))
    (tSeq (tFor (iList K (tCall (sp_calls_of K) [] E0 (tCons (tVar 0) tNil))) (gTup K 3 (gCons (gName 3) (gCons (gName 4) (gCons (gName 5) gNil)))) (tSeq (tAsg (tOp (rIxI K "DEEDS" deedsL) (tC (.ref (He.ga K "DEEDS"))) (tVar 3)) (gName 6))
    (tSeq (tAsg (tCallH P w K mg base 7 6 (tCons (tVar 1) (tCons (tVar 4) (tCons (tVar 5) tNil)))) (gName 7))
    (tSeq (tDrop (tBM K "list" rAppend (tVar 2) (tCons (tCB (rLenS K) (tCons (tVar 7) tNil)) tNil)))
    (tDrop (tBM K "list" rExtend (tVar 2) (tCons (tVar 7) tNil)))))))
    (tRet (tVar 2)))))
theorem w_answers (T : Txt K mg) (cdv : Value) (A : Around) (outer : List Env) (s : Shared) (H : Hp) (E : XK) (hr : Room 7 (A.deeper (envOfC "answers" (defScope s_answers) s.heap.objs.size (He.fAd K ("answers", none)) cdv))) :
    PSs (cxOf CX0 P w K mg base NL_answers "answers" (defScope s_answers) (He.fAd K ("answers", none)) cdv A outer s H E).nox (defBody s_answers) (t_answers P w K mg base) := by
  exact (pss_cons (ps_set (i := 1) sc_answers.nd rfl (.inl rfl) (pe_makeG0 (T.mkr 135 rfl) (ok_Desk___init__ T) (hr.mono (by decide)) rfl (T.glo 27 rfl)))
    (pss_cons (ps_set (i := 2) sc_answers.nd rfl (.inl rfl) (pe_lst pa_nil))
    (pss_cons (ps_for PassesOwn.never rfl (pi_list (pe_callG (ok_calls_of T) (hr.mono (by decide)) rfl (T.glo 67 rfl) (pa_cons (pv 0) pa_nil))) (pg_tup rfl (pgs_cons (pg_name (i := 3) sc_answers.nd rfl (.inl rfl)) (pgs_cons (pg_name (i := 4) sc_answers.nd rfl (.inl rfl)) (pgs_cons (pg_name (i := 5) sc_answers.nd rfl (.inl rfl)) pgs_nil)))) (pss_cons (ps_set (i := 6) sc_answers.nd rfl (.inl rfl) (pe_ix (ix_dicI T.deeds) (pe_gr rfl (T.glo 76 rfl)) (pv 3) (fun _ _ => rfl)))
    (pss_cons (ps_set (i := 7) sc_answers.nd rfl (.inl rfl) (pe_callH (k := 7) (hr.mono (by decide)) rfl (.inl rfl) (pa_cons (pv 1) (pa_cons (pv 4) (pa_cons (pv 5) pa_nil)))))
    (pss_cons (ps_expr (pe_bm PySem.F.plainAttrs_list PySem.F.slot_list_append PySem.F.type_list_append mt_append (pv 2) (pa_cons (pe_callB call_len_seq rfl (T.free 78 rfl) (by decide +kernel) (pa_cons (pv 7) pa_nil)) pa_nil)))
    (pss_one (ps_expr (pe_bm PySem.F.plainAttrs_list PySem.F.slot_list_extend PySem.F.type_list_extend mt_extend (pv 2) (pa_cons (pv 7) pa_nil))))))))
    (pss_one (ps_ret (pv 2))))))
/-- the loop's word -/
def AnI (K : PySem.W.Frag) (H2 : Hp) (A0 : DkA) (aC D : Addr) (cs : List Cl) (i : Nat) (σ : L2.St) (H : Hp) : Prop := ∃ (A : DkA) (S : Wrtibu.State) (O : List (List Int)) (u v w x y : Option V), σ = [some (.ref aC), some (.ref A0.d), some (.ref D), u, v, w, x, y] ∧ A.d = A0.d ∧ DeskAt K H A S ∧ (∀ a o, a ∉ A0.all → a ≠ D → H2 a = some o → H a = some o) ∧ (∀ a, a ∈ A.all → a ∈ A0.all ∨ H2 a = none) ∧ H D = some (.lst ((PyFlat.told O).map V.int)) ∧ play WrtibuNeutral.start cs = O ++ play S (cs.drop i)
theorem pure_answers (T : Txt K mg) (h : sp_answers K vs H Q E) : t_answers P w K mg base { nx := fun _ H' => Q .non H', rt := Q } (start NL_answers vs) H := by
  obtain ⟨aC, ns, rfl, hC, hask, k⟩ := h
  obtain ⟨cs, hp, hcl, hrs, hans, hshort⟩ := asked_is hask
  unfold t_answers
  show tAsg _ _ _ _ H
  unfold tAsg
  refine m_make ea_nil fun x dx H1 e1 hx hdx hne => ?_
  have EJ : Ex H1 (upd (upd H1 dx (.own x)) x (.ins (He.ga K "Desk") dx [])) := (Ex.new hdx).trans (Ex.new (by rw [upd_ne (Ne.symm hne)]; exact hx))
  refine ⟨x, dx, H1, rfl, hx, EJ, upd_same, fun A0 H3 hA0x hfresh hA0 e3 => ⟨rfl, ?_⟩⟩
  show tSeq _ _ _ [some (.ref aC), some (.ref x), none, none, none, none, none, none] H3
  rw [← hA0x]
  refine q_asgL el_nil fun D H4 hD e4 h4 => ?_
  have hA4 := hA0.mono e4
  refine q_liX (X := fun Hp v Hq => ∃ (p : Addr) (ts : List Addr), v = .ref p ∧ Hp p = none ∧ Hq p = some (.lst (ts.map V.ref)) ∧ Paired (ClAt Hp Hq) ts cs) (fun H5 e5 Q' q => ?_) fun v H5 e5 hv => ?_
  · refine (ea_cons (ev_var rfl) ea_nil : EvA (tCons (tVar 0) tNil) [some (.ref aC), some (.ref A0.d), some (.ref D), none, none, none, none, none] H5 [.ref aC]) H5 (Ex.refl H5) _ fun H6 e6 => ⟨aC, ns, cs, rfl, ex_l ((((e1.trans e3).trans e4).trans e5).trans e6) hC, hp, by omega, fun p ts H7 hp7 e7 h7 h8 => q _ _ (e6.trans e7) ⟨p, ts, rfl, fresh_back e6 hp7, h7, Paired.mapP h8 fun t c ⟨aW, aR, f, z⟩ => ⟨aW, aR, ⟨fresh_back e6 f.1, fresh_back e6 f.2.1, fresh_back e6 f.2.2⟩, z⟩⟩⟩
  obtain ⟨aK, ts, rfl, hfK, hK, hcl2⟩ := hv
  have hA5 := hA4.mono e5
  have hD5 := e5 _ _ h4
  have hDA : D ∉ A0.all := hA0.not_all hD
  have old : ∀ {a : Addr}, H4 a = none → a ∉ A0.all ∧ a ≠ D := fun {a} ha => ⟨hA4.not_all ha, fun z => by
    rw [z, h4] at ha
    cases ha⟩
  have tl : ts.length = cs.length := hcl2.length
  refine q_forL (xs := ts.map V.ref) ev_c (sq_of hK) (AnI K H5 A0 aC D cs) (fun H6 e6 => ?_) (fun i σ' H' _ hI => ?_) ?_ ?_
  · refine ⟨A0, Wrtibu.start, [], none, none, none, none, none, rfl, rfl, hA5.mono e6, fun a o _ _ h => e6 _ _ h, fun a h => .inl h, e6 _ _ hD5, rfl⟩
  · obtain ⟨A, S, O, _, _, _, _, _, _, _, _, hkeep, _⟩ := hI
    exact sq_of (hkeep _ _ (old hfK).1 (old hfK).2 hK)
  · rintro i y σ' H' hy ⟨A, S, O, u, v, w', x', y', rfl, hd, hA, hkeep, hnew, hDl, hplay⟩
    obtain ⟨t, ht, rfl⟩ := map_at hy
    have hi : i < cs.length := by
      have := (List.getElem?_eq_some_iff.mp ht).1
      omega
    have hci : cs[i]? = some cs[i] := List.getElem?_eq_getElem hi
    obtain ⟨c, hc⟩ : ∃ c, c = cs[i] := ⟨_, rfl⟩
    rw [← hc] at hci
    obtain ⟨aW, aR, ⟨f1, f2, f3⟩, g1, g2, g3⟩ := paired_get2 hcl2 ht hci
    have k1 := hkeep _ _ (old f1).1 (old f1).2 g1
    have k2 := hkeep _ _ (old f2).1 (old f2).2 g2
    have k3 := hkeep _ _ (old f3).1 (old f3).2 g3
    have hcm := List.mem_of_getElem? hci
    obtain ⟨n, kk, hsh, hwl, hk0, _⟩ := parse_mem hp c hcm
    obtain ⟨f, mk, hlook, hheld, hcall⟩ := deed_of (P := P) (w := w) (base := base) T hsh
    have hcall := hcall c.ws c.rs hwl hk0
    have hstep : WrtibuNeutral.step S (rawC c) = Wrtibu.step S (mk c.ws c.rs) := by
      unfold WrtibuNeutral.step
      have e : rawC c = rawC ⟨c.p, c.ws, c.rs⟩ := rfl
      rw [e, hcall]
    have hdrop : cs.drop i = c :: cs.drop (i + 1) := by
      rw [List.drop_eq_getElem_cons hi, ← hc]
    have hplay2 : play WrtibuNeutral.start cs = (O ++ [(Wrtibu.step S (mk c.ws c.rs)).2]) ++ play (Wrtibu.step S (mk c.ws c.rs)).1 (cs.drop (i + 1)) := by
      rw [hplay, hdrop]
      show O ++ ((WrtibuNeutral.step S (rawC c)).2 :: PyFlat.played WrtibuNeutral.step (WrtibuNeutral.step S (rawC c)).1 ((cs.drop (i + 1)).map rawC)) = _
      rw [hstep, List.append_assoc]
      rfl
    have hlen : (PyFlat.told (O ++ [(Wrtibu.step S (mk c.ws c.rs)).2])).length ≤ 10000000 := by
      have := hshort
      rw [hplay2, told_app, List.length_append] at this
      omega
    rw [told_app, told_one, List.length_append, List.length_cons] at hlen
    refine ⟨t, [.int c.p, .ref aW, .ref aR], rfl, st_of k1, rfl, _, _, rfl, _, _, rfl, _, _, rfl, rfl, ?_⟩
    show tSeq _ _ _ [some (.ref aC), some (.ref A0.d), some (.ref D), some (.int c.p), some (.ref aW), some (.ref aR), x', y'] H'
    refine q_asg (v := .ref (He.ga K f)) (ev_op (z := .ref (He.ga K f)) ev_c (ev_var rfl) fun H1 _ Q q => ⟨c.p, _, rfl, rfl, hlook, q H1 (Ex.refl H1)⟩) fun H6 e6 => ?_
    refine ⟨He.ga K f, _, rfl, hheld, ?_⟩
    refine (ea_cons (ev_var rfl) (ea_cons (ev_var rfl) (ea_cons (ev_var rfl) ea_nil)) : EvA (tCons (tVar 1) (tCons (tVar 4) (tCons (tVar 5) tNil))) [some (.ref aC), some (.ref A0.d), some (.ref D), some (.int c.p), some (.ref aW), some (.ref aR), some (.ref (He.ga K f)), y'] H6 [.ref A0.d, .ref aW, .ref aR]) H6 (Ex.refl H6) _ fun H7 e7 => ?_
    have e67 := e6.trans e7
    have hA7 := hA.mono e67
    refine ⟨A, S, aW, c.ws, aR, c.rs, by rw [hd], hA7, sq_of (e67 _ _ k2), sq_of (e67 _ _ k3), hwl, hrs c hcm, fun A' H8 p hA8 fr hp8 h8 => ?_⟩
    have hD7 := e67 _ _ hDl
    have hDn : D ∉ A.all := fun z => by
      rcases hnew D z with q | q
      · exact hDA q
      · rw [hD5] at q
        cases q
    have hD8 := fr.old D _ hDn hD7
    have hDn' : D ∉ A'.all := fun z => by
      rcases fr.new D z with q | q
      · exact hDn q
      · rw [hD7] at q
        cases q
    have pD : p ≠ D := fun z => by
      rw [z, hD7] at hp8
      cases hp8
    show tSeq _ _ _ [some (.ref aC), some (.ref A0.d), some (.ref D), some (.int c.p), some (.ref aW), some (.ref aR), some (.ref (He.ga K f)), some (.ref p)] H8
    refine q_appZ hD8 (ev_var rfl) (ev_lenI (ev_var rfl) (sq_of h8)) (by rw [List.length_map]; omega) fun H9 e9 => ?_
    refine s_extV (b := p) (ys := (Wrtibu.step S (mk c.ws c.rs)).2.map V.int) upd_same (by rw [upd_ne pD]; exact e9 _ _ h8) (ev_var rfl) (ev_var rfl) (by rw [List.length_append, List.length_map, List.length_map, List.length_singleton]; omega) fun H10 e10 => ?_
    have hAm := ((hA8.mono e9).keep (e9 _ _ hD8) (But.refl _ H9).upd hDn').mono e10
    refine ⟨A', (Wrtibu.step S (mk c.ws c.rs)).1, O ++ [(Wrtibu.step S (mk c.ws c.rs)).2], _, _, _, _, _, rfl, fr.d.trans hd, hAm.keep (e10 _ _ upd_same) (But.refl _ H10).upd hDn', fun a o h1 h2 h3 => ?_, fun a ha => ?_, ?_, hplay2⟩
    · have z := fr.old a o (fun q => by
        rcases hnew a q with q | q
        · exact h1 q
        · rw [h3] at q
          cases q) (e67 _ _ (hkeep a o h1 h2 h3))
      rw [upd_ne h2]
      refine e10 _ _ ?_
      rw [upd_ne h2]
      exact e9 _ _ z
    · rcases fr.new a ha with q | q
      · exact hnew a q
      · cases hz : H5 a with
        | none => exact .inr rfl
        | some o =>
          by_cases c1 : a ∈ A0.all
          · exact .inl c1
          · by_cases c2 : a = D
            · rw [c2, hD7] at q
              cases q
            · rw [e67 _ _ (hkeep a o c1 c2 hz)] at q
              cases q
    · rw [upd_same, told_app, told_one, List.map_append, List.map_cons, List.append_assoc]
      rfl
  · rintro σ' H' ⟨A, S, O, u, v, w', x', y', rfl, hd, hA, hkeep, hnew, hDl, hplay⟩
    have e0 : cs.drop (ts.map V.ref).length = [] := by
      rw [List.length_map, tl]
      exact List.drop_length
    rw [e0] at hplay
    have hO : O = play WrtibuNeutral.start cs := by
      rw [hplay]
      exact (List.append_nil O).symm
    refine s_ret (ev_var rfl) fun H6 e6 => k D H6 ?_
    rw [hans, ← hO]
    exact e6 _ _ hDl
end
end Sb
end
section
set_option maxHeartbeats 4000000
namespace Sb
open PySem PySem.Spec PySem.Calls PyProof.Rows L2 Evl
open PySem.W (WData Codec OpenSpec)
theorem answers_fn {K : PySem.W.Frag} {mg : Str → Option Value} (T : Txt K mg) : ∃ fd : FuncData, (∀ (s : Shared) (us : List Value), us.length = (["calls"] : List Str).length → BindsTo s fd ⟨us, []⟩ ((["calls"] : List Str).zip us)) ∧ ∀ (P : Program) (w : World) (base : Heap), FnOk P w K mg base CX0 8 (He.fAd K ("answers", none)) fd ["calls"] (sp_answers K) := by
  obtain ⟨fd, F⟩ := T.d.def_ 92 (d := d_answers) rfl
  have e0 : d_answers.dvs K = [] := rfl
  have e1 : d_answers.kws K = [] := rfl
  rw [e0, e1] at F
  exact ⟨fd, fun s us hl => F.bindsA (fun _ _ _ _ _ _ us hl => match us, hl with | [_], _ => rfl) s us hl, fun P w base => F.ok sc_answers (fun vs H Q E h => len_answers h) fun cdv A outer s H vs Q E hr h => ⟨t_answers P w K mg base, (w_answers T cdv A outer s H E hr).nox, pure_answers T h⟩⟩
theorem the_end : PySem.W.WalkOS qv names (PySem.W.XL qv []) hk.says R (HandSHeadRun.topDef PR 100) [] (fun f vs => PySem.call f vs) := by
  refine walk_specE (r := R) (k := 8) (q := qv) (loose := names) (CX := fun _ => CX0) (ps := ["calls"]) well rfl ⟨rfl, by decide, by decide⟩ ?F (fun _ _ _ _ _ z => z)
  intro w mg fa h ⟨K, X, hs⟩ G hmg
  have T : Txt K mg := ⟨hs, h, X, G⟩
  have hg : mg "answers" = some (.ref (He.ga K "answers")) := T.glo 77 rfl
  have hn : (HandSHeadRun.topDef PR 100).name = ("answers" : Str) := by kernel_rfl
  rw [hn, hg] at hmg
  cases hmg
  obtain ⟨fd, hb, hF⟩ := answers_fn T
  refine ⟨K, fd, sp_answers K, X, hb, fun base _ _ => hF _ w base, fun H xs a hO hwi hask hx => ?_⟩
  cases hx with
  | cons h1 h2 =>
    cases h2
    cases h1 with
    | lst hl ha =>
      have e := L2.ints_dw a.1 _ ha
      subst e
      exact ⟨_, a.1, rfl, hl, hask, fun p H' hp => .lst (sq_of hp) (L2.dw_ints _)⟩
end Sb
end
theorem PySem.Challenge.cw_stembuck_s01_answers_holds : PySem.Challenge.rw_stembuck_s01_answers.Holds :=
  Sb.holds_of Sb.the_end
